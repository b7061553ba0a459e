import PyProof.Rows.All
import Wide.All
import OpenK.AllK
import Wide.FinOn
import HandS.ForMost
import HandS.Exc
import HandS.ExcCtx
import HandS.HotCalls
import HandS.ExcInitHot
import KE.GoesRaise
import HandS.ReplaceLit
import HandS.Defaults
import HandS.ExcInit
import HandS.CallSlots
import HandS.Conv
import KE.KDictList
import PyProof.StrOps2
import HandS.ExcOwn
import HandS.ReplaceDef
import HandS.ExcField
import HandS.ExcIs
import HandS.IsInst
import HandS.ReplaceList
import PySem.Challenge.RW_talkalike_k22_whole_text_or_first_bad_li
set_option Elab.async false
set_option linter.all false
set_option maxRecDepth 100000
set_option maxHeartbeats 8000000
/-! TK1: a list comprehension whose element may raise, also where an exception is handled (my own layer over HandS). -/
namespace TK
open PySem PySem.Spec PyProof.Rows L2

/-! ### a block that bears pins and a wish -/
/-- the context of a comprehension's block with the pins pn and the wish xe -/
abbrev blkX (X : Cx) (s : Shared) (H : Hp) (scope : Scope) (cenv : Env) (fp : List Addr) (pn : List (Addr × Obj)) (xe : Value → Shared → Prop) : Cx :=
  { X with s_0 := s, H_0 := H, env := cenv, outer := X.stack, ex := fp, fn := fun x => scope.names.lookup x == some .cell, pn := pn, xe := xe }
/-- the wish of such a block: what a callee lets out, as Eb says -/
def blkE (X : Cx) (s : Shared) (H : Hp) (scope : Scope) (cenv : Env) (fp : List Addr) (pn : List (Addr × Obj)) (Eb : XK) : Value → Shared → Prop := fun u s' =>
  ∃ (pins : List (Addr × Obj)) (τ : List (Option V)) (H1 : Hp) (s1 : Shared), Inv (blkX X s H scope cenv fp pn fun _ _ => False) pins τ H1 s1 ∧ L2N.CX X.prog X.w X.stack H1 s1 Eb u s'
/-- the block's context -/
abbrev blkY (X : Cx) (s : Shared) (H : Hp) (scope : Scope) (cenv : Env) (fp : List Addr) (pn : List (Addr × Obj)) (Eb : XK) : Cx := blkX X s H scope cenv fp pn (blkE X s H scope cenv fp pn Eb)
section
variable {X : Cx} {pins pn : List (Addr × Obj)} {σ : List (Option V)} {H : Hp} {s : Shared} {scope : Scope} {cenv : Env} {fp : List Addr} {Eb : XK}
theorem passes_blk {s0 : Shared} {H0 : Hp} : Passes (L2N.CX X.prog X.w) (blkY X s0 H0 scope cenv fp pn Eb) Eb := fun pins τ H1 s1 e s' I c => ⟨pins, τ, H1, s1, Inv.unwish (X := blkX X s0 H0 scope cenv fp pn fun _ _ => False) I, c⟩
/-- from a plain block to one with pins and a wish -/
theorem blk_to {s0 : Shared} {H0 : Hp} {xe : Value → Shared → Prop} (I : Inv (X.blk s0 H0 scope cenv fp) [] σ H s)
    (hp : ∀ p ∈ pn, s.heap.get? p.1 = some p.2 ∧ H p.1 = none ∧ p.1 ≠ cenv.locals ∧ p.1 ∉ frs X.stack ∧ ∀ v, p.2.data ≠ .cell v) : Inv (blkX X s0 H0 scope cenv fp pn xe) [] σ H s := by
  obtain ⟨o1, o2, o3, o4, o5, o6, o7, o8, o9, o10, o11, o12, o13, o14, o15, o16, o17, o18⟩ := I.ok
  refine ⟨⟨o1, o2, o3, o4, o5, o6, o7, o8, o9, o10, o11, o12, o13, o14, o15, o16, o17, o18⟩, I.os, I.bare, I.base, I.loc, I.cell, I.free, I.freeC, fun p hm => ?_, I.hok, I.len⟩
  have hm' : p ∈ pn := by
    have z : p ∈ pn ++ [] := hm
    rwa [List.append_nil] at z
  exact hp p hm'
end

/-! ### an exception out of a block -/
/-- HeldZ over a smaller ground, the block's names let go -/
theorem held_less {B B' : Heap} {l : List Env} {a L C : Addr} {Z : Obj → Prop} {h h2 : Heap} {m m2 : Str → Option Value} (hh : HandSPX.HeldZ B l a Z L h) (k : ∀ b o, B'.get? b = some o → B.get? b = some o)
    (hC : B'.get? C = none) (hn : h.Ns C m) (hn2 : h2.Ns C m2) (sb : Heap.SameBut C h h2) : HandSPX.HeldZ B' l a Z L h2 := by
  obtain ⟨b1, b0, f1, oe, vs, T, oT, ts, he, hz, hd, h1, hT0, hTe, hT, hdT, h3⟩ := hh
  have none_of : ∀ b, B.get? b = none → B'.get? b = none := fun b e => by
    cases q : B'.get? b with
    | none => rfl
    | some o => rw [k b o q] at e; cases e
  obtain ⟨oC, es, ep, hoC, hdC, _⟩ := hn
  have neC : ∀ b o vs, h.get? b = some o → o.data = .fields vs → b ≠ C := fun b o vs e d z => by
    rw [z, hoC] at e
    have e' := Option.some.inj e
    subst e'
    rw [hdC] at d
    cases d
  have fB : h.FunFrames B' l := funFrames_none f1 fun b hb => by
    obtain ⟨e, he', q⟩ := List.mem_filterMap.mp hb
    have z := (f1.mem (b := b) (List.mem_filterMap.mpr ⟨e, he', q⟩)).1
    exact none_of b z
  refine ⟨fun b o e => (sb.2 b (fun z => by rw [z, hC] at e; cases e)).trans (b1 b o (k b o e)), none_of a b0, Heap.FunFrames.sameBut sb hn2 fB, ?_⟩
  exact ⟨oe, vs, T, oT, ts, (sb.2 a (neC a oe vs he hd)).trans he, hz, hd, h1, none_of T hT0, hTe, (sb.2 T (neC T oT ts hT hdT)).trans hT, hdT, h3⟩

section
variable {X : Cx} {pins : List (Addr × Obj)} {σ : List (Option V)} {H : Hp} {s : Shared}
/-- back from the ground: a state of the context X whose objects are the ground's and the frames' -/
theorem ground {H' : Hp} {s' : Shared} {B : Heap} {ch : List Addr} (I : Inv X pins σ H s) (st : B.StaysIn s'.heap) (hok : HOk X.prog X.w H' B) (os : s'.os = s.os) (ag : AllBare s'.gens)
    (keep : ∀ b o, s.heap.get? b = some o → H b = none → b ∉ frs X.stack → b ∉ ch → B.get? b = some o) (slot : ∀ b o, s.heap.get? b = some o → b ∈ frs X.stack → ∃ sl, s'.heap.get? b = some { o with slots := sl })
    (free : ∀ b o, s.heap.get? b = some o → H b = none → b ∉ ch → H' b = none) (there : ∀ b o, s.heap.get? b = some o → b ∉ frs X.stack → b ∉ ch → ∃ o', B.get? b = some o')
    (tups : ∀ b xs, H b = some (.tup xs) → H' b = some (.tup xs)) (frzs : ∀ b o xs, H b = some (.frz o xs) → H' b = some (.frz o xs)) (tbls : ∀ b ps, H b = some (.tbl ps) → ∃ more, H' b = some (.tbl (ps ++ more)))
    (hch : ∀ b ∈ ch, (b ∈ X.ex ∨ X.s_0.heap.objs.size ≤ b) ∧ b ≠ X.env.locals ∧ (∀ x c, X.env.cells.lookup x = some c → c ≠ b) ∧ ∀ p ∈ X.pn ++ pins, p.1 ≠ b) :
    ∃ sI : Shared, Inv X pins σ H' sI ∧ (∀ b o, sI.heap.get? b = some o → b ∉ frs X.stack → B.get? b = some o) ∧ (∀ b o, sI.heap.get? b = some o → s'.heap.get? b = some o) ∧ s'.os = sI.os := by
  obtain ⟨G, g1, g2⟩ := restrict s'.heap fun b => (B.get? b).isSome || decide (b ∈ frs X.stack)
  have inB : ∀ b o, B.get? b = some o → G.get? b = some o := fun b o e => (g1 b (by simp [e])).trans (st b o e)
  have inF : ∀ b, b ∈ frs X.stack → G.get? b = s'.heap.get? b := fun b hb => g1 b (by simp [hb])
  have back : ∀ b o, G.get? b = some o → s'.heap.get? b = some o ∧ (b ∉ frs X.stack → B.get? b = some o) := fun b o e => by
    cases q : ((B.get? b).isSome || decide (b ∈ frs X.stack)) with
    | false =>
      rw [g2 b q] at e
      cases e
    | true =>
      have e' : s'.heap.get? b = some o := (g1 b q).symm.trans e
      refine ⟨e', fun hb => ?_⟩
      cases y : B.get? b with
      | none => rw [y, decide_eq_false hb] at q; cases q
      | some u =>
        have z := st b u y
        rw [e'] at z
        exact z.symm
  refine ⟨{ s with heap := G, gens := s'.gens, drawn := s'.drawn, toks := s'.toks }, I.call (ch := ch) ⟨fun b o e n hb hx => inB b o (keep b o e n hb hx), fun b o e n hb hx => ?_, fun b o e n hx => free b o e n hx, fun b o e hx => ?_, tups, frzs, tbls⟩ (hok.kept inB) ag hch,
    fun b o e hb => (back b o e).2 hb, fun b o e => (back b o e).1, os⟩
  · obtain ⟨sl, q⟩ := slot b o e hb
    exact ⟨sl, (inF b hb).trans q⟩
  · by_cases hb : b ∈ frs X.stack
    · obtain ⟨sl, q⟩ := slot b o e hb
      exact ⟨_, (inF b hb).trans q⟩
    · obtain ⟨o', q⟩ := there b o e hb hx
      exact ⟨o', inB b o' q⟩
end

section
variable {X : Cx} {pins pn : List (Addr × Obj)} {σ : List (Option V)} {H3 : Hp} {s3 : Shared} {scope : Scope} {ce : Env} {fp : List Addr} {Eb : XK} {W : WX}
/-- what an exception out of the element owes at the comprehension's end -/
theorem blk_fails (tk : L2N.Takes X W) (hW : ∀ cls d H', Eb cls d H' → W cls d σ H') (hs : X.stack = X.env :: X.outer) (hf : X.env.frame = some X.env.locals) (hcf : ce.frame = X.env.frame) (hcl : ce.locals = s3.heap.objs.size)
    (I3 : Inv X pins σ H3 s3) (hfp : ∀ b ∈ fp, FpOk X pins H3 b) {u : Value} {s' : Shared} (x : blkE X s3 H3 scope ce fp pn Eb u s') :
    notedBy (model X.prog X.w) X.A ce (CompFails (model X.prog X.w) X.A X.xe ce) u s' := by
  obtain ⟨pins1, τ, H1, s1, J, c⟩ := x
  obtain ⟨a, B, H', cls, d, rfl, fl, hok, ub, na, os, ag, hE⟩ := c
  have nst : s3.heap.objs.size ∉ frs X.stack := fun hm => by
    rcases List.mem_cons.mp (I3.stkSub _ hm) with z | z
    · exact absurd I3.lt (by rw [← z]; exact Nat.lt_irrefl _)
    · exact I3.nofs (Nat.le_refl _) z
  -- the block's names
  obtain ⟨m1, hn1, _⟩ := J.loc
  have hn1' : s1.heap.Ns s3.heap.objs.size m1 := by
    have z : s1.heap.Ns ce.locals m1 := hn1
    rw [hcl] at z
    exact z
  have fC : H1 s3.heap.objs.size = none := by
    have z : H1 ce.locals = none := J.free
    rw [hcl] at z
    exact z
  obtain ⟨oC, esC, epC, hoC, hdC, hrC⟩ := hn1'
  have hBC : B.get? s3.heap.objs.size = some oC := ub.keep _ _ hoC fC nst
  have hn' : s'.heap.Ns s3.heap.objs.size m1 := ⟨oC, esC, epC, fl.1 _ _ hBC, hdC, hrC⟩
  have fC' : H' s3.heap.objs.size = none := ub.free _ _ hoC fC
  -- the ground without the block's names
  obtain ⟨B', g1, g2⟩ := restrict B fun b => decide (b ≠ s3.heap.objs.size)
  have hBn : B'.get? s3.heap.objs.size = none := g2 _ (by simp)
  have less : ∀ b o, B'.get? b = some o → B.get? b = some o := fun b o e => by
    by_cases hb : b = s3.heap.objs.size
    · rw [hb, hBn] at e
      cases e
    · exact (g1 b (decide_eq_true hb)).symm.trans e
  have more : ∀ b o, b ≠ s3.heap.objs.size → B.get? b = some o → B'.get? b = some o := fun b o hb e => (g1 b (decide_eq_true hb)).trans e
  have ne3 : ∀ b o, s3.heap.get? b = some o → b ≠ s3.heap.objs.size := fun b o e => Nat.ne_of_lt (Heap.lt_size e)
  have hok' : HOk X.prog X.w H' B' := fun b o e => (hok b o e).stay (fun q v hq r => more q v (fun z => by
      rcases hq with hq | hq
      · rw [← hq, z, fC'] at e; cases e
      · rw [z, fC'] at hq; cases hq) r) (fun _ r => r) fun _ _ r => r
  have bs := J.base
  have ex1 : ∀ b, b ∉ fp → b ∉ (blkX X s3 H3 scope ce fp pn fun _ _ => False).ex := fun b hb => hb
  obtain ⟨sI, JI, nb, up, os2⟩ := ground (ch := fp) (B := B') (H' := H') (s' := s') I3 (fun b o e => fl.1 b o (less b o e)) hok' (os.trans J.os) ag
    (fun b o e n hb hx => more b o (ne3 b o e) (ub.keep b o (bs.keep b o e n hb hx) (bs.free b o e n hx) hb))
    (fun b o e hb => by
      have hx : b ∉ fp := fun z => (J.ok.exfs b z) hb
      obtain ⟨sl, q⟩ := bs.slot b o e (I3.stkFree b hb) hb hx
      obtain ⟨sl', q'⟩ := ub.slot b _ q hb
      exact ⟨sl', q'⟩)
    (fun b o e n hx => by
      obtain ⟨o', q⟩ := bs.there b o e hx
      exact ub.free b o' q (bs.free b o e n hx))
    (fun b o e hb hx => by
      obtain ⟨o', q⟩ := bs.there b o e hx
      obtain ⟨o2, q2⟩ := ub.there b o' q hb
      exact ⟨o2, more b o2 (ne3 b o e) q2⟩)
    (fun b xs e => ub.tups b xs (bs.tups b xs e)) (fun b o xs e => ub.frzs b o xs (bs.frzs b o xs e))
    (fun b ps e => by
      obtain ⟨q1, e1⟩ := bs.tbls b ps e
      obtain ⟨q2, e2⟩ := ub.tbls b _ e1
      exact ⟨q1 ++ q2, by rw [e2, Array.append_assoc]⟩)
    (fun b hb => ⟨(hfp b hb).2.2.2.1, (hfp b hb).2.1, (hfp b hb).2.2.2.2.1, (hfp b hb).2.2.2.2.2⟩)
  have ndC : ∀ b o, sI.heap.get? b = some o → b ≠ s3.heap.objs.size := fun b o e z => by
    rw [z] at e
    have q := nb _ _ e nst
    rw [hBn] at q
    cases q
  -- noted by the def's own frame
  have hfr : X.A.frames = some (X.env :: X.outer) := by rw [I3.ok.frames, hs]
  have hcf' : ce.frame = some X.env.locals := hcf.trans hf
  have fl2 : HandSPX.FlyingZ B (X.env :: X.outer) a (L2N.Zn cls d) s'.heap := by
    rw [← hs]
    exact fl
  show wpAny _ _ (noteFrame (.ref a) ce) _ _ _
  rw [noteFrame_env _ hcf]
  refine PXN.looks_onZ L2N.Zn.steady hfr hf fl2 fun h1 hh1 up1 => ?_
  have hn2 : h1.Ns s3.heap.objs.size m1 := Heap.Ns.upToSlots hn' up1
  show CompFails _ _ _ _ _ _
  refine ⟨m1, by rw [hcl]; exact hn2, fun h2 m2 hn3 sb => ?_⟩
  rw [hcl] at hn3 sb
  have hh2 := held_less hh1 less hBn hn2 hn3 sb
  obtain ⟨k1, k2, k3, oe, vs, T, oT, ts, he, hz, hd, hv1, hr⟩ := id hh2
  unfold PySem.passOn
  refine wpAny_bind (wpAny_field he hd hv1 ?_)
  rw [if_neg (show ¬ ((Value.ref T == Value.none) = true) from by simp), hcf']
  refine wpAny_bind (HandSPX.setFlight_onZ hh2 fun h4 hh4 up4 => wpAny_throw (tk _ _ ?_))
  refine ⟨a, B', sI, pins, σ, H', cls, d, rfl, JI, nb, fun b o e hnf => ?_, .inr (.inr (by rw [hs]; exact hh4)), na, os2, ag, hW _ _ _ hE⟩
  obtain ⟨sl1, q1⟩ := up1 b o (up b o e) hnf
  have q2 : h2.get? b = some { o with slots := sl1 } := (sb.2 b (ndC b o e)).trans q1
  obtain ⟨sl2, q3⟩ := up4 b _ q2 hnf
  exact ⟨sl2, q3⟩
end
end TK

/-! TK2: what is walked, calm or hot; the comprehension over it. -/
namespace TK
open PySem PySem.Spec PyProof.Rows L2

/-- nothing is handled, or one exception without a context -/
def Warm (X : Cx) : Prop := X.calm = true ∨ L2H.HotC X
structure TurnG (C : Cx → Prop) (P : Program) (w : World) (K : PySem.W.Frag) (tg : Expr) (J : It) (fp : List Addr) (it : Addr) (tn : Nat → Heap → Prop) : Prop where
  mem : it ∈ fp
  obj : ∀ i h, tn i h → ∀ b ∈ fp, ∃ o, h.get? b = some o ∧ ∀ v, o.data ≠ .cell v
  keep : ∀ i h h', tn i h → (∀ b ∈ fp, ∀ o, h.get? b = some o → h'.get? b = some o) → tn i h'
  item : ∀ (X : Cx), X.prog = P → X.w = w → X.K = K → C X → ∀ (i : Nat) (pins : List (Addr × Obj)) (s : Shared) (σ : List (Option V)) (H : Hp) (E : Value → Shared → Prop), Inv X pins σ H s → (∀ b ∈ fp, FpOk X pins H b) → tn i s.heap → J.go i H →
    wpAny (model P w) X.A (pyNext (.ref it)) (fun r s1 => ∃ u, r = some u ∧
      wpAny (model P w) X.A (letOwnedTupleGo tg (.ref it) u) (fun _ s2 => ∃ x H', Inv X pins σ H' s2 ∧ RelV x u ∧ J.yld i H x H' ∧ tn (i + 1) s2.heap ∧ ∀ b ∈ fp, H' b = none) E s1) E s
  done : ∀ (X : Cx), X.prog = P → X.w = w → X.K = K → C X → ∀ (i : Nat) (pins : List (Addr × Obj)) (s : Shared) (σ : List (Option V)) (H : Hp) (E : Value → Shared → Prop), Inv X pins σ H s → (∀ b ∈ fp, FpOk X pins H b) → tn i s.heap → J.stop i H →
    wpAny (model P w) X.A (pyNext (.ref it)) (fun r s1 => r = none ∧ Inv X pins σ H s1) E s
  self : ∀ (A : Around) (i : Nat) (s : Shared) (Q : Value → Shared → Prop) (E : Value → Shared → Prop), tn i s.heap → Q (.ref it) s → wpAny (model P w) A (pyIter (.ref it)) Q E s
def PIEG (C : Cx → Prop) (X : Cx) (pins : List (Addr × Obj)) (σ : List (Option V)) (tg : Expr) (R : It → Hp → Prop) (itv : Value) (s2 : Shared) : Prop :=
  ∃ (it : Addr) (fp : List Addr) (tn : Nat → Heap → Prop) (J : It) (H' : Hp), itv = .ref it ∧ Inv X pins σ H' s2 ∧ TurnG C X.prog X.w X.K tg J fp it tn ∧ tn 0 s2.heap ∧ (∀ b ∈ fp, FpOk X pins H' b) ∧ R J H'
structure PIG (C : Cx → Prop) (X : Cx) (tg iter : Expr) (wi : TI) : Prop where
  run : ∀ (pins : List (Addr × Obj)) (s : Shared) (σ : List (Option V)) (H : Hp) (R : It → Hp → Prop), Inv X pins σ H s → wi σ H R →
    wpAny (model X.prog X.w) X.A (eval iter X.env) (fun v s1 => wpAny (model X.prog X.w) X.A (pyIter v) (PIEG C X pins σ tg R) X.xe s1) X.xe s

/-- what the layer walks, where nothing is handled -/
def Calm (X : Cx) : Prop := X.calm = true
theorem turn_calm {P : Program} {w : World} {K : PySem.W.Frag} {tg : Expr} {J : It} {fp : List Addr} {it : Addr} {tn : Nat → Heap → Prop} (T : Turn P w K tg J fp it tn) : TurnG Calm P w K tg J fp it tn :=
  ⟨T.mem, T.obj, T.keep, T.item, T.done, T.self⟩
theorem pi_calm {X : Cx} {tg iter : Expr} {wi : TI} (h : PI X tg iter wi) : PIG Calm X tg iter wi :=
  ⟨fun pins s σ H R I q => thn (h.run pins s σ H R I q) fun _ _ h1 => thn h1 fun _ _ h2 => let ⟨it, fp, tn, J, H', e, I2, T, st, f, r⟩ := h2; ⟨it, fp, tn, J, H', e, I2, turn_calm T, st, f, r⟩⟩

/-! ### the end of a text's signs while an exception is handled -/
section
variable {prog : Program} {w : World} {A : Around} {E : Value → Shared → Prop} {s : Shared}
theorem ascii_end_hot {it x1 : Addr} {x : Str} {t : Tok} {i : Nat} {Q : Option Value → Shared → Prop} (hot : HotX.HotAt A x1 s.heap) (hne : x1 ≠ it)
    (hit : s.heap.IsStrIter it "str_ascii_iterator" x t i) (hx : x.cps[i]? = none) (hQ : ∀ h', Heap.ExtBut it s.heap h' → Q none { s with heap := h' }) : wpAny (model prog w) A (pyNext (.ref it)) Q E s := by
  obtain ⟨o, ho, hc, hd⟩ := id hit
  obtain ⟨hh, o1, vs1, h1, d1, c1⟩ := hot
  unfold pyNext
  refine wpAny_bind (wpAny_attempt (wpAny_callSpecial?_slot (name := Str.ofString "__next__") hit.typeIs F.slot_str_ascii_iterator_next
    (wpAny_call_entry F.slot_str_ascii_iterator_next hit.typeIs F.entry_str_ascii_iterator_next ?_ (F.args_str_ascii_iterator_next_1 _))))
  show wpAny _ _ (field (.ref it) 0 >>= _) _ _ s
  refine wpAny_bind (wpAny_field ho hd (x := .str x t) rfl ?_)
  show wpAny _ _ (field (.ref it) 1 >>= _) _ _ s
  refine wpAny_bind (wpAny_field ho hd (x := .int i 0) rfl ?_)
  simp only [Int.toNat_natCast, hx]
  refine wpAny_bind (wpAny_rule (wpAny_bind (wpAny_setField ho hd (by simp) (wpAny_bind (wpAny_letGo ?_)))))
  show wpAny _ _ (newExc (.type "StopIteration") [] >>= _) _ _ _
  refine wpAny_bind ?_
  simp only [newExc, newTuple]
  refine wpAny_bind (wpAny_newObj_type ?_ (by size_fits))
  refine wpAny_bind (m := firstArgMember _ _) (wpAny_of_eq (a := Value.none) (by first | rfl | (simp only [firstArgMember]; rfl)) ?_)
  refine wpAny_newObj_type ?_ (by size_fits)
  have k0 := (Heap.get?_update_other s.heap (Obj.mapFields (·.setIfInBounds 0 Value.none)) (Ne.symm hne)).trans h1
  have k1 := Heap.get?_push_of_some { cls := .type "tuple", data := .seq ([] : List Value).toArray } k0
  refine HotX.raiseNew_hot (x1 := x1) ⟨hh, o1, vs1, Heap.get?_push_of_some _ k1, d1, c1⟩ (Nat.ne_of_lt (Heap.lt_size k1)) (Heap.get?_push_size _ rfl) rfl (by first | (simp; done) | (simp; omega) | (simp only [Array.size_append]; simp; omega)) ?_
  refine wpAny_bind (wpAny_isInstance (T := "StopIteration") (b := true) ⟨_, Heap.get?_update_self _ (Heap.get?_push_size _ rfl) rfl, rfl⟩ isSubtype_stop ?_)
  refine wpAny_pure (hQ _ fun b o hb e => ?_)
  have q0 := (Heap.get?_update_other s.heap (Obj.mapFields (·.setIfInBounds 0 Value.none)) (Ne.symm hb)).trans e
  have q1 := Heap.get?_push_of_some { cls := .type "tuple", data := .seq ([] : List Value).toArray } q0
  rw [Heap.get?_update_other _ _ (Nat.ne_of_gt (Heap.lt_size q1))]
  exact Heap.get?_push_of_some _ q1
theorem wide_end_hot {it x1 : Addr} {x : Str} {t : Tok} {i : Nat} {Q : Option Value → Shared → Prop} (hot : HotX.HotAt A x1 s.heap) (hne : x1 ≠ it)
    (hit : s.heap.IsStrIter it "str_iterator" x t i) (hx : x.cps[i]? = none) (hQ : ∀ h', Heap.ExtBut it s.heap h' → Q none { s with heap := h' }) : wpAny (model prog w) A (pyNext (.ref it)) Q E s := by
  obtain ⟨o, ho, hc, hd⟩ := id hit
  obtain ⟨hh, o1, vs1, h1, d1, c1⟩ := hot
  unfold pyNext
  refine wpAny_bind (wpAny_attempt (wpAny_callSpecial?_slot (name := Str.ofString "__next__") hit.typeIs F.slot_str_iterator_next
    (wpAny_call_entry F.slot_str_iterator_next hit.typeIs F.entry_str_iterator_next ?_ (F.args_str_iterator_next_1 _))))
  show wpAny _ _ (field (.ref it) 0 >>= _) _ _ s
  refine wpAny_bind (wpAny_field ho hd (x := .str x t) rfl ?_)
  show wpAny _ _ (field (.ref it) 1 >>= _) _ _ s
  refine wpAny_bind (wpAny_field ho hd (x := .int i 0) rfl ?_)
  simp only [Int.toNat_natCast, hx]
  refine wpAny_bind (wpAny_rule (wpAny_bind (wpAny_setField ho hd (by simp) (wpAny_bind (wpAny_letGo ?_)))))
  show wpAny _ _ (newExc (.type "StopIteration") [] >>= _) _ _ _
  refine wpAny_bind ?_
  simp only [newExc, newTuple]
  refine wpAny_bind (wpAny_newObj_type ?_ (by size_fits))
  refine wpAny_bind (m := firstArgMember _ _) (wpAny_of_eq (a := Value.none) (by first | rfl | (simp only [firstArgMember]; rfl)) ?_)
  refine wpAny_newObj_type ?_ (by size_fits)
  have k0 := (Heap.get?_update_other s.heap (Obj.mapFields (·.setIfInBounds 0 Value.none)) (Ne.symm hne)).trans h1
  have k1 := Heap.get?_push_of_some { cls := .type "tuple", data := .seq ([] : List Value).toArray } k0
  refine HotX.raiseNew_hot (x1 := x1) ⟨hh, o1, vs1, Heap.get?_push_of_some _ k1, d1, c1⟩ (Nat.ne_of_lt (Heap.lt_size k1)) (Heap.get?_push_size _ rfl) rfl (by first | (simp; done) | (simp; omega) | (simp only [Array.size_append]; simp; omega)) ?_
  refine wpAny_bind (wpAny_isInstance (T := "StopIteration") (b := true) ⟨_, Heap.get?_update_self _ (Heap.get?_push_size _ rfl) rfl, rfl⟩ isSubtype_stop ?_)
  refine wpAny_pure (hQ _ fun b o hb e => ?_)
  have q0 := (Heap.get?_update_other s.heap (Obj.mapFields (·.setIfInBounds 0 Value.none)) (Ne.symm hb)).trans e
  have q1 := Heap.get?_push_of_some { cls := .type "tuple", data := .seq ([] : List Value).toArray } q0
  rw [Heap.get?_update_other _ _ (Nat.ne_of_gt (Heap.lt_size q1))]
  exact Heap.get?_push_of_some _ q1
end

/-- a walk of the layer, where nothing is handled -/
theorem turnW_calm {P : Program} {w : World} {K : PySem.W.Frag} {tg : Expr} {J : It} {fp : List Addr} {it : Addr} {tn : Nat → Heap → Prop} (T : Turn P w K tg J fp it tn) (TH : ∀ (X : Cx), X.prog = P → X.w = w → X.K = K → L2H.HotC X → ∀ (i : Nat) (pins : List (Addr × Obj)) (s : Shared) (σ : List (Option V)) (H : Hp) (E : Value → Shared → Prop), Inv X pins σ H s → (∀ b ∈ fp, FpOk X pins H b) → tn i s.heap → J.stop i H →
    wpAny (model P w) X.A (pyNext (.ref it)) (fun r s1 => r = none ∧ Inv X pins σ H s1) E s)
    (TI : ∀ (X : Cx), X.prog = P → X.w = w → X.K = K → ∀ (i : Nat) (pins : List (Addr × Obj)) (s : Shared) (σ : List (Option V)) (H : Hp) (E : Value → Shared → Prop), Inv X pins σ H s → (∀ b ∈ fp, FpOk X pins H b) → tn i s.heap → J.go i H →
    wpAny (model P w) X.A (pyNext (.ref it)) (fun r s1 => ∃ u, r = some u ∧
      wpAny (model P w) X.A (letOwnedTupleGo tg (.ref it) u) (fun _ s2 => ∃ x H', Inv X pins σ H' s2 ∧ RelV x u ∧ J.yld i H x H' ∧ tn (i + 1) s2.heap ∧ ∀ b ∈ fp, H' b = none) E s1) E s) : TurnG Warm P w K tg J fp it tn where
  mem := T.mem
  obj := T.obj
  keep := T.keep
  item := fun X hP hw hK _ => TI X hP hw hK
  done := fun X hP hw hK hc => hc.elim (fun h => T.done X hP hw hK h) fun h => TH X hP hw hK h
  self := T.self
theorem turn_strW {P : Program} {w : World} {K : PySem.W.Frag} {tg : Expr} (it : Addr) (x : Str) (t : Tok) (ty : String) (hty : ty = "str_ascii_iterator" ∨ ty = "str_iterator") :
    TurnG Warm P w K tg (Its x) [it] it (fun i h => h.IsStrIter it ty x t i) := by
  refine turnW_calm (turn_str it x t ty hty) ?_ ?_
  · intro X hP hw hK hc i pins s σ H E I hf st hg
    subst hP hw hK
    obtain ⟨f0, f1, f2, f3, f4, f5⟩ := hf it (by simp)
    have hx : x.cps[i]? = none := Array.getElem?_eq_none hg
    obtain ⟨x1, hot⟩ := hc.at I
    have ne : x1 ≠ it := by
      obtain ⟨p, ⟨hh, _⟩, hp⟩ := hc
      have e : x1 = p.1 := by
        have z := hot.1
        rw [hh] at z
        exact (Value.ref.inj (Option.some.inj z)).symm
      rw [e]
      exact f5 p (List.mem_append_left _ hp)
    rcases hty with e | e
    · rw [e] at st
      exact ascii_end_hot hot ne st hx fun h' eb => ⟨rfl, I.turned (t' := s.toks) (fun b o hb e => eb b o hb e) f0 f1 f3 f4 f5⟩
    · rw [e] at st
      exact wide_end_hot hot ne st hx fun h' eb => ⟨rfl, I.turned (t' := s.toks) (fun b o hb e => eb b o hb e) f0 f1 f3 f4 f5⟩
  · intro X hP hw hK i pins s σ H E I hf st hg
    subst hP hw hK
    obtain ⟨f0, f1, f2, f3, f4, f5⟩ := hf it (by simp)
    have hno : ["enumerate", "zip", "dict_itemiterator", "dict_reverseitemiterator", "odict_iterator", "itertools.zip_longest", "itertools.pairwise"].contains ty = false := by
      rcases hty with e | e
      · rw [e]; decide
      · rw [e]; decide
    have hi : i < x.cps.size := hg
    have hx : x.cps[i]? = some x.cps[i] := Array.getElem?_eq_getElem hi
    have go : ∀ h', h'.IsStrIter it ty x t (i + 1) → Heap.SameBut it s.heap h' → ∃ u, some (Value.str ⟨#[x.cps[i]]⟩ s.toks) = some u ∧
        wpAny (model X.prog X.w) X.A (letOwnedTupleGo tg (.ref it) u) (fun _ s2 => ∃ y H', Inv X pins σ H' s2 ∧ RelV y u ∧ (Its x).yld i H y H' ∧ s2.heap.IsStrIter it ty x t (i + 1) ∧ ∀ b ∈ [it], H' b = none) E { s with heap := h', toks := s.toks + 1 } := fun h' st' sb => by
      have I1 : Inv X pins σ H { s with heap := h', toks := s.toks + 1 } := I.turned (fun b o hb e => (sb.2 b hb).trans e) f0 f1 f3 f4 f5
      obtain ⟨oi, e, cc, dd⟩ := id st'
      exact ⟨_, rfl, go_of (s := { s with heap := h', toks := s.toks + 1 }) e cc dd hno ⟨.str ⟨#[x.cps[i]]⟩, H, I1, ⟨_, rfl⟩, ⟨rfl, _, hx, rfl⟩, st', fun b hb => (hf b hb).1⟩⟩
    rcases hty with e | e
    · subst e
      exact wpAny_pyNext_ascii_item st hx fun h' st' sb => go h' st' sb
    · subst e
      exact wpAny_pyNext_wide_item st hx fun h' st' sb => go h' st' sb
theorem pi_strW {X : Cx} {tg e : Expr} {te : TE} (he : PE X e te) : PIG Warm X tg e (iStr te) := by
  refine ⟨fun pins s σ H R I h => ?_⟩
  refine thn (he.run pins s σ H _ I h) fun v s1 ⟨y, H1, I1, r1, x, ex, q⟩ => ?_
  subst ex
  obtain ⟨t, rfl⟩ := r1
  have fin : ∀ (o : Obj) (ty : String), (ty = "str_ascii_iterator" ∨ ty = "str_iterator") → (s1.heap.push o).IsStrIter s1.heap.objs.size ty x t 0 → PIEG Warm X pins σ tg R (.ref s1.heap.objs.size) { s1 with heap := s1.heap.push o } := fun o ty hty st =>
    ⟨s1.heap.objs.size, [s1.heap.objs.size], _, _, H1, rfl, I1.kept (t' := s1.toks) fun b o e => Heap.get?_push_of_some _ e, turn_strW _ x t ty hty, st, fun b hb => by
      have e : b = s1.heap.objs.size := by simpa using hb
      subst e
      exact I1.fpOk (Nat.le_refl _) (I1.hok.fresh (Nat.le_refl _)), q⟩
  cases ha : x.cps.all (· < 128)
  · exact wpAny_pyIter_wide ha (fin _ "str_iterator" (.inr rfl) ⟨_, Heap.get?_push_size _ rfl, rfl, rfl⟩)
  · exact wpAny_pyIter_ascii ha (fin _ "str_ascii_iterator" (.inl rfl) ⟨_, Heap.get?_push_size _ rfl, rfl, rfl⟩)
/-! ### the comprehension -/
section
variable {X : Cx}
theorem lcX_core {C : Cx → Prop} {W : WX} {Eb : XK} {pins : List (Addr × Obj)} {s : Shared} {σ : List (Option V)} {H : Hp} {Q : VK} {elt tg iter : Expr} {ifs : List Expr} {scope : Scope} {own : List (Str × Nat)} {pos pos' : Pos} {wi : TI} {g : TG} {tt : TT} {te : TE}
    (hCB : ∀ (s : Shared) (H : Hp) (cenv : Env) (fp : List Addr) (pn : List (Addr × Obj)) (xe : Value → Shared → Prop), (∀ p ∈ X.pn, p ∈ pn) → C (blkX X s H scope cenv fp pn xe))
    (tk : L2N.Takes X W) (hW : ∀ cls d H', Eb cls d H' → W cls d σ H') (hst : X.stack = X.env :: X.outer) (hfr : X.env.frame = some X.env.locals)
    (hN : X.N.Nodup) (I : Inv X pins σ H s) (hi : PIG C X tg iter wi) (ok : BlkOk X.N X.env.scope scope own)
    (hg : ∀ (s : Shared) (H : Hp) (C0 : Addr) (cl : List (Str × Addr)) (fp : List Addr) (pn : List (Addr × Obj)), PG (blkY X s H scope (compEnvC scope cl C0 X.env) fp pn Eb) tg g)
    (ht : ∀ (s : Shared) (H : Hp) (C0 : Addr) (cl : List (Str × Addr)) (fp : List Addr) (pn : List (Addr × Obj)), (∀ p ∈ X.pn, p ∈ pn) → PTs (blkY X s H scope (compEnvC scope cl C0 X.env) fp pn Eb) ifs tt)
    (he : ∀ (s : Shared) (H : Hp) (C0 : Addr) (cl : List (Str × Addr)) (fp : List Addr) (pn : List (Addr × Obj)), PE (blkY X s H scope (compEnvC scope cl C0 X.env) fp pn Eb) elt te) (hs : ∀ x, foldedSetIterable iter X.env x = pure x)
    (h : tLc wi g tt te (own.map (·.2)) σ H Q) :
    wpAny (model X.prog X.w) X.A (comprehension (.ListComp elt [⟨tg, iter, ifs, 0⟩] scope pos) scope X.env pos' (newList []) false (eval iter X.env) none) (EP X pins σ Q) X.xe s := by
  have hfree : ∀ y ∈ scope.names, y.2 = .free → ∃ c, X.env.cells.lookup y.1 = some c := fun y hy e => (ok.free y hy e).elim (fun k => I.ok.has _ (.inl k)) fun k => I.ok.has _ (.inr k)
  refine comprehension_at (use := none) rfl hs (closure_ok hfree) ok.kind (fun y hy e => (ok.uniq y hy).trans (congrArg some e))
    (thn (hi.run pins s σ H _ I h) fun xv s1 hx => thn hx fun itv s2 h2 => ?_)
  obtain ⟨it, fp, tn, J, H2, e, I2, T, st2, f2, q⟩ := h2
  subst e
  refine wpAny_newObj_type (newEnv_comp ?_) (by show 0 ≤ sizeLine; decide)
  generalize hD : s2.heap.objs.size = D
  have hDn : H2 D = none := I2.hok.fresh (Nat.le_of_eq hD)
  obtain ⟨Wt, ⟨m0, w0⟩, turn⟩ := q D hDn
  generalize hs3 : ({ s2 with heap := s2.heap.push { cls := .type "list", data := .seq ([] : List Value).toArray } } : Shared) = s3
  have h3 : s3.heap = s2.heap.push { cls := .type "list", data := .seq ([] : List Value).toArray } := by rw [← hs3]
  have I3 : Inv X pins σ (upd H2 D (.lst [])) s3 := by
    rw [← hs3]
    refine I2.laid (t' := s2.toks) (fun b o e => Heap.get?_push_of_some _ e) (Nat.le_of_eq hD) ⟨Nat.zero_le _, [], 0, .nil, ?_⟩
    rw [← hD]
    exact Heap.get?_push_size _ rfl
  have sz : ∀ b ∈ fp, b < s2.heap.objs.size := fun b hb => let ⟨o, e, _⟩ := T.obj _ _ st2 b hb; Heap.lt_size e
  have f3 : ∀ b ∈ fp, FpOk X pins (upd H2 D (.lst [])) b ∧ b < s3.heap.objs.size := fun b hb =>
    ⟨⟨(upd_ne (hD ▸ Nat.ne_of_lt (sz b hb))).trans (f2 b hb).1, (f2 b hb).2⟩, by rw [h3, Heap.size_push]; exact Nat.lt_succ_of_lt (sz b hb)⟩
  have st3 : tn 0 s3.heap := T.keep _ _ _ st2 fun b _ o e => by rw [h3]; exact Heap.get?_push_of_some _ e
  have I4b := block_start I3 ok hN f3
  have pg := hg s3 (upd H2 D (.lst [])) s3.heap.objs.size (cellsFrom (s3.heap.objs.size + 1) scope.names (cloFrom X.env.cells scope.names [])) fp (X.pn ++ pins)
  have pt := ht s3 (upd H2 D (.lst [])) s3.heap.objs.size (cellsFrom (s3.heap.objs.size + 1) scope.names (cloFrom X.env.cells scope.names [])) fp (X.pn ++ pins) (fun p hp => List.mem_append_left _ hp)
  have pe := he s3 (upd H2 D (.lst [])) s3.heap.objs.size (cellsFrom (s3.heap.objs.size + 1) scope.names (cloFrom X.env.cells scope.names [])) fp (X.pn ++ pins)
  show codeAny _ _ (.compStart (.ListComp elt [⟨tg, iter, ifs, 0⟩] scope pos) 0 (.ref it) (.ref D) (compEnvC scope (cellsFrom (s3.heap.objs.size + 1) scope.names (cloFrom X.env.cells scope.names [])) s3.heap.objs.size X.env))
    (compEnds (model X.prog X.w) X.A X.xe none (EP X pins σ Q) (.ref D) (compEnvC scope (cellsFrom (s3.heap.objs.size + 1) scope.names (cloFrom X.env.cells scope.names [])) s3.heap.objs.size X.env)) { s3 with heap := pushCells (s3.heap.push { cls := .type "dict", data := .dict #[] }) scope.names }
  have nfp : ∀ b ∈ fp, (upd H2 D (.lst [])) b = none := fun b hb => (f3 b hb).1.1
  have cF : (compEnvC scope (cellsFrom (s3.heap.objs.size + 1) scope.names (cloFrom X.env.cells scope.names [])) s3.heap.objs.size X.env).frame = X.env.frame := rfl
  generalize hce : compEnvC scope (cellsFrom (s3.heap.objs.size + 1) scope.names (cloFrom X.env.cells scope.names [])) s3.heap.objs.size X.env = ce at I4b pg pt pe cF ⊢
  have cL : ce.locals = s3.heap.objs.size := by subst hce; rfl
  generalize hH3 : upd H2 D (.lst []) = H3 at I3 I4b pg pt pe w0 nfp f3
  have nst : s3.heap.objs.size ∉ frs X.stack := fun hm => by
    rcases List.mem_cons.mp (I3.stkSub _ hm) with z | z
    · exact absurd I3.lt (by rw [← z]; exact Nat.lt_irrefl _)
    · exact I3.nofs (Nat.le_refl _) z
  generalize hs4 : ({ s3 with heap := pushCells (s3.heap.push { cls := .type "dict", data := .dict #[] }) scope.names } : Shared) = s4 at I4b ⊢
  have up34 : ∀ b o, s3.heap.get? b = some o → s4.heap.get? b = some o := fun b o e => by
    rw [← hs4]
    exact pushCells_keeps _ _ _ _ (Heap.get?_push_of_some _ e)
  have I4 : Inv (blkY X s3 H3 scope ce fp (X.pn ++ pins) Eb) [] (wipe σ (own.map (·.2))) H3 s4 := blk_to I4b fun p hp => by
    obtain ⟨e1, e2, e3, e4, e5⟩ := I3.pin p hp
    refine ⟨up34 _ _ e1, e2, ?_, fun hm => (List.mem_cons.mp (I3.stkSub _ hm)).elim e3 e4, e5⟩
    rw [cL]
    exact Nat.ne_of_lt (Heap.lt_size e1)
  have hC : C (blkY X s3 H3 scope ce fp (X.pn ++ pins) Eb) := hCB _ _ _ _ _ _ fun p hp => List.mem_append_left _ hp
  have st4 : tn 0 s4.heap := T.keep _ _ _ st3 fun b _ o e => up34 b o e
  have stat : ∀ {σ' : List (Option V)} {H' : Hp} {s' : Shared}, Inv (blkY X s3 H3 scope ce fp (X.pn ++ pins) Eb) [] σ' H' s' → (∀ b ∈ fp, H' b = none) → ∀ b ∈ fp, FpOk (blkY X s3 H3 scope ce fp (X.pn ++ pins) Eb) [] H' b := fun {σ' H' s'} I' hn b hb =>
    ⟨hn b hb, (I'.ok.exf b hb).1, I'.ok.exfs b hb, .inl hb, fun x c e => (I'.ok.exf b hb).2 x c e, fun p hp => by
      have hp' : p ∈ X.pn ++ pins := by
        have z : p ∈ (X.pn ++ pins) ++ [] := hp
        rwa [List.append_nil] at z
      exact (f3 b hb).1.2.2.2.2.2 p hp'⟩
  have bad : ∀ u s', blkE X s3 H3 scope ce fp (X.pn ++ pins) Eb u s' → notedBy (model X.prog X.w) X.A ce (fun e s' => compEnds (model X.prog X.w) X.A X.xe none (EP X pins σ Q) (.ref D) ce (.error e) s') u s' := fun u s' x =>
    blk_fails tk hW hst hfr cF cL I3 (fun b hb => (f3 b hb).1) x
  have bad2 : ∀ {α : Type} {m : Sem α} {Q1 Q2 : α → Shared → Prop} {s' : Shared}, wpAny (model X.prog X.w) X.A m Q1 (blkE X s3 H3 scope ce fp (X.pn ++ pins) Eb) s' → (∀ a s'', Q1 a s'' → Q2 a s'') →
      wpAny (model X.prog X.w) X.A m Q2 (notedBy (model X.prog X.w) X.A ce fun e s' => compEnds (model X.prog X.w) X.A X.xe none (EP X pins σ Q) (.ref D) ce (.error e) s') s' := fun h1 h2 => wpAny_mono h1 h2 bad
  have loop : codeAny (model X.prog X.w) X.A (.compLoop (.ListComp elt [⟨tg, iter, ifs, 0⟩] scope pos) 0 (.ref it) (.ref D) ce) (compEnds (model X.prog X.w) X.A X.xe none (EP X pins σ Q) (.ref D) ce) s4 := by
    refine compLoop_any (fun n s' => ∃ i H', Inv (blkY X s3 H3 scope ce fp (X.pn ++ pins) Eb) [] (wipe σ (own.map (·.2))) H' s' ∧ tn i s'.heap ∧ (∀ b ∈ fp, H' b = none) ∧ Wt i n H') ?_ m0 ⟨0, H3, I4, st4, nfp, w0⟩
    rintro n s5 ⟨i, H5, I5, st5, n5, w5⟩
    rcases turn i n H5 w5 with ⟨stop, qq⟩ | ⟨go, Nx, hNx, step⟩
    · refine thnF (T.done (blkY X s3 H3 scope ce fp (X.pn ++ pins) Eb) rfl rfl rfl hC i [] s5 _ H5 (fun _ _ => False) I5 (stat I5 n5) st5 stop) fun r s6 ⟨hr, I6⟩ => ?_
      subst hr
      have I7 : Inv X pins σ H5 s6 := I3.call' (ch := fp) I6.os I6.base I6.hok I6.bare fun b hb => ⟨(f3 b hb).1.2.2.2.1, (f3 b hb).1.2.1, (f3 b hb).1.2.2.2.2.1, (f3 b hb).1.2.2.2.2.2⟩
      have nC : H5 s3.heap.objs.size = none := by
        have z : H5 ce.locals = none := I6.free
        rwa [cL] at z
      obtain ⟨m, hn, _⟩ := I6.loc
      have hn : s6.heap.Ns ce.locals m := hn
      show ∃ m, s6.heap.Ns ce.locals m ∧ _
      refine ⟨m, hn, fun h' sb => ?_⟩
      rw [cL] at sb
      obtain ⟨a0, a1, a2, a3, a4, a5⟩ := I3.fpOk (Nat.le_refl _) nC
      exact ⟨.ref D, H5, I7.turned (t' := s6.toks) (fun b o hb e => (sb.2 b hb).trans e) a0 a1 a3 a4 a5, rfl, qq⟩
    · refine thnF (T.item (blkY X s3 H3 scope ce fp (X.pn ++ pins) Eb) rfl rfl rfl hC i [] s5 _ H5 (fun _ _ => False) I5 (stat I5 n5) st5 go) fun r s6 ⟨u, hr, h6⟩ => ?_
      subst hr
      refine thnF h6 fun _ s7 ⟨x, H7, I7, r7, y7, st7, n7⟩ => ?_
      have I7' := I7.pinned (stat I7 n7) (T.obj _ _ st7)
      refine bad2 (pg.run _ s7 _ H7 x u _ I7' r7 (step x H7 y7)) fun _ s8 ⟨σ8, H8, I8, hw8, q8⟩ => ?_
      refine bad2 (pt.run _ s8 σ8 H8 _ I8 q8) fun b s9 ⟨H9, I9, q9⟩ => ?_
      have fin : ∀ {s' : Shared} {H' : Hp}, Inv (blkY X s3 H3 scope ce fp (X.pn ++ pins) Eb) ([] ++ pinsAt fp s7.heap) σ8 H' s' → Nx H' → ∃ m, m < n ∧ ∃ i H', Inv (blkY X s3 H3 scope ce fp (X.pn ++ pins) Eb) [] (wipe σ (own.map (·.2))) H' s' ∧ tn i s'.heap ∧ (∀ b ∈ fp, H' b = none) ∧ Wt i m H' := fun {s' H'} I' nx => by
        obtain ⟨m', hm, w'⟩ := hNx H' nx
        have pin' : ∀ b ∈ fp, ∀ o, s7.heap.get? b = some o → s'.heap.get? b = some o ∧ H' b = none := fun b hb o e =>
          let z := I'.pin (b, o) (List.mem_append_right _ (List.mem_append_right _ (mem_pinsAt hb e)))
          ⟨z.1, z.2.1⟩
        refine ⟨m', hm, i + 1, H', (I'.unpinned (pins := [])).weak (by rw [← hw8, wipe_length]) (fun j v e => ?_), T.keep _ _ _ st7 fun b hb o e => (pin' b hb o e).1, fun b hb => ?_, w'⟩
        · rw [← hw8] at e
          exact (wipe_some e).1
        · obtain ⟨o, e, _⟩ := T.obj _ _ st7 b hb
          exact (pin' b hb o e).2
      cases b with
      | false =>
        simp only [Bool.false_eq_true, if_false] at q9 ⊢
        exact fin I9 q9
      | true =>
        simp only [if_true] at q9 ⊢
        refine bad2 (pe.run _ s9 σ8 H9 _ I9 q9) fun z s10 ⟨yv, H10, I10, r10, acc, hD10, hz10, nx⟩ => ?_
        exact app_ok (X := blkY X s3 H3 scope ce fp (X.pn ++ pins) Eb) I10 hD10 hz10 r10 fun s11 I11 => fin I11 nx
  exact codeAny_compStart_list loop (T.self X.A 0 _ _ _ st4 loop)
/-- as a value -/
theorem pe_lcX {C : Cx → Prop} {W : WX} {Eb : XK} {elt tg iter : Expr} {ifs : List Expr} {scope : Scope} {own : List (Str × Nat)} {pos : Pos} {wi : TI} {g : TG} {tt : TT} {te : TE}
    (hCB : ∀ (s : Shared) (H : Hp) (cenv : Env) (fp : List Addr) (pn : List (Addr × Obj)) (xe : Value → Shared → Prop), (∀ p ∈ X.pn, p ∈ pn) → C (blkX X s H scope cenv fp pn xe))
    (tk : L2N.Takes X W) (hW : ∀ cls d σ H', Eb cls d H' → W cls d σ H') (hst : X.stack = X.env :: X.outer) (hfr : X.env.frame = some X.env.locals)
    (hN : X.N.Nodup) (hi : PIG C X tg iter wi) (ok : BlkOk X.N X.env.scope scope own)
    (hg : ∀ (s : Shared) (H : Hp) (C0 : Addr) (cl : List (Str × Addr)) (fp : List Addr) (pn : List (Addr × Obj)), PG (blkY X s H scope (compEnvC scope cl C0 X.env) fp pn Eb) tg g)
    (ht : ∀ (s : Shared) (H : Hp) (C0 : Addr) (cl : List (Str × Addr)) (fp : List Addr) (pn : List (Addr × Obj)), (∀ p ∈ X.pn, p ∈ pn) → PTs (blkY X s H scope (compEnvC scope cl C0 X.env) fp pn Eb) ifs tt)
    (he : ∀ (s : Shared) (H : Hp) (C0 : Addr) (cl : List (Str × Addr)) (fp : List Addr) (pn : List (Addr × Obj)), PE (blkY X s H scope (compEnvC scope cl C0 X.env) fp pn Eb) elt te) (hs : ∀ x, foldedSetIterable iter X.env x = pure x := by intro _; rfl) :
    PE X (.ListComp elt [⟨tg, iter, ifs, 0⟩] scope pos) (tLc wi g tt te (own.map (·.2))) := by
  refine ⟨fun pins s σ H Q I h => ?_⟩
  rw [eval_ListComp]
  exact lcX_core hCB tk (fun cls d H' => hW cls d σ H') hst hfr hN I hi ok hg ht he hs h
theorem calm_blk {scope : Scope} (hc : X.calm = true) : ∀ (s : Shared) (H : Hp) (cenv : Env) (fp : List Addr) (pn : List (Addr × Obj)) (xe : Value → Shared → Prop), (∀ p ∈ X.pn, p ∈ pn) → Calm (blkX X s H scope cenv fp pn xe) := fun _ _ _ _ _ _ _ => hc
theorem warm_blk {scope : Scope} (hc : Warm X) : ∀ (s : Shared) (H : Hp) (cenv : Env) (fp : List Addr) (pn : List (Addr × Obj)) (xe : Value → Shared → Prop), (∀ p ∈ X.pn, p ∈ pn) → Warm (blkX X s H scope cenv fp pn xe) := fun _ _ _ _ _ _ hp =>
  hc.elim .inl fun ⟨p, h1, h2⟩ => .inr ⟨p, h1, hp p h2⟩
theorem warm_in {s : Shared} {H : Hp} {scope : Scope} {cenv : Env} {fp : List Addr} {pn : List (Addr × Obj)} {Eb : XK} (hc : Warm X) (hp : ∀ p ∈ X.pn, p ∈ pn) : Warm (blkY X s H scope cenv fp pn Eb) :=
  hc.elim .inl fun ⟨p, h1, h2⟩ => .inr ⟨p, h1, hp p h2⟩
theorem takes_none : L2N.Takes X (fun _ _ _ _ => False) := fun _ _ ⟨_, _, _, _, _, _, _, _, _, _, _, _, _, _, _, _, h⟩ => h.elim
end
end TK

/-! TK3: list(text); text * int; C.__init__(self, ..) of an own class; the making of an own exception, its context None. -/
namespace TK
open PySem PySem.Spec PyProof.Rows L2

/-! ### list(text) -/
/-- nothing is handled, or an exception without a context that stands in h -/
def WarmA (A : Around) (h : Heap) : Prop := A.handled = none ∨ ∃ x1, HotX.HotAt A x1 h
theorem Warm.at {X : Cx} {pins : List (Addr × Obj)} {σ : List (Option V)} {H : Hp} {s : Shared} (c : Warm X) (I : Inv X pins σ H s) : WarmA X.A s.heap := c.elim (fun h => .inl (I.ok.hd h)) fun h => .inr (h.at I)
section
variable {prog : Program} {w : World} {A : Around} {E : Value → Shared → Prop} {s : Shared}
/-- the walk of a text's signs, warm -/
theorem walks_str (hA : WarmA A s.heap) (x : Str) (t : Tok) (ty : String) (hty : ty = "str_ascii_iterator" ∨ ty = "str_iterator") (o : Obj) (st : (s.heap.push o).IsStrIter s.heap.objs.size ty x t 0) :
    ∃ (fp : List Addr) (St : Nat → Heap → Prop), Walks prog w A s.heap.objs.size fp [s.heap.objs.size] x.cps.size (SignAt x) St ∧ St 0 (s.heap.push o) ∧ ∀ b ∈ fp, b = s.heap.objs.size ∨ A.handled = some (.ref b) := by
  rcases hA with hA | ⟨x1, hh, o1, vs1, h1, d1, c1⟩
  · refine ⟨[s.heap.objs.size], fun i h => h.IsStrIter s.heap.objs.size ty x t i, ?_, st, fun b hb => .inl (by simpa using hb)⟩
    rcases hty with e | e
    · rw [e]; exact Walks.strAscii hA _ x t
    · rw [e]; exact Walks.strWide hA _ x t
  · have ne : x1 ≠ s.heap.objs.size := Nat.ne_of_lt (Heap.lt_size h1)
    refine ⟨[s.heap.objs.size, x1], fun i h => h.IsStrIter s.heap.objs.size ty x t i ∧ h.get? x1 = some o1, ?_, ⟨st, Heap.get?_push_of_some _ h1⟩, fun b hb => ?_⟩
    · refine ⟨fun b hb => by simp at hb; simp [hb], fun i h h' q k => ⟨let ⟨oi, ho, r⟩ := q.1; ⟨oi, k _ (by simp) oi ho, r⟩, k x1 (by simp) o1 q.2⟩, fun i s2 Q E2 hi q hQ => ?_, fun s2 Q E2 q hQ => ?_, fun i s2 Q E2 q hQ => ?_⟩
      · have fin : ∀ h', h'.IsStrIter s.heap.objs.size ty x t (i + 1) → Heap.SameBut s.heap.objs.size s2.heap h' → Q (some (.str ⟨#[x.cps[i]]⟩ s2.toks)) { s2 with heap := h', toks := s2.toks + 1 } := fun h' q' sb =>
          hQ _ h' (s2.toks + 1) ⟨_, _, by simp [hi], rfl⟩ ⟨q', (sb.2 x1 ne).trans q.2⟩ fun b ob hb e => (sb.2 b (fun z => hb (by simp [z]))).trans e
        rcases hty with e | e
        · subst e
          exact wpAny_pyNext_ascii_item q.1 (by simp [hi]) fin
        · subst e
          exact wpAny_pyNext_wide_item q.1 (by simp [hi]) fin
      · have fin : ∀ h', Heap.ExtBut s.heap.objs.size s2.heap h' → Q none { s2 with heap := h' } := fun h' eb => hQ h' s2.toks fun b ob hb e => eb b ob (fun z => hb (by simp [z])) e
        rcases hty with e | e
        · subst e
          exact ascii_end_hot (x1 := x1) ⟨hh, o1, vs1, q.2, d1, c1⟩ ne q.1 (by simp) fin
        · subst e
          exact wide_end_hot (x1 := x1) ⟨hh, o1, vs1, q.2, d1, c1⟩ ne q.1 (by simp) fin
      · rcases hty with e | e
        · subst e
          exact wpAny_pyIter_striter_ascii q.1 hQ
        · subst e
          exact wpAny_pyIter_striter_wide q.1 hQ
    · rcases List.mem_cons.mp hb with e | hb
      · exact .inl e
      · have e : b = x1 := by simpa using hb
        rw [e]
        exact .inr hh
theorem hint_str {x : Str} {t : Tok} {Q : Bool → Shared → Prop} (h : Q false s) : wpAny (model prog w) A (Builtin.List.listLengthHint (.str x t)) Q E s := by
  unfold Builtin.List.listLengthHint
  refine wpAny_bind (wpAny_specialOf (typeIs_str s x t) PySem.F.slot_str_len.lookup ?_)
  generalize hid : ("str.__len__" : String) = id0
  wp_delta
  rw [show splitId id0 = some ("str", "__len__") from by subst hid; decide +kernel]
  subst hid
  refine wpAny_bind (wpAny_isInstance (T := "str") (b := true) (typeIs_str s x t) (by rw [isSubtype_type]; kernel_rfl) ?_)
  refine wpAny_ite_split (fun hab => absurd hab (by decide)) (fun _ => ?_)
  refine wpAny_ite_split (fun _ => ?_) (fun hab => absurd (by decide +kernel) hab)
  exact wpAny_bind (wpAny_typeOf (typeIs_str s x t) (wpAny_pure h))
theorem extend_str {R : Result → Shared → Prop} {x : Str} {t : Tok} (hA : WarmA A s.heap) (S : Addr) (res : Value) (c0 : Nat) (hS : s.heap.get? S = some { cls := .type "list", data := .seq #[] c0 }) (hn : x.cps.size ≤ sizeLine)
    (hx1 : ∀ x1, A.handled = some (.ref x1) → x1 ≠ S)
    (hR : ∀ h' tk acc' c', (∀ b o, b ≠ S → s.heap.get? b = some o → h'.get? b = some o) → h'.get? S = some { cls := .type "list", dict := none, data := .seq acc' c', slots := #[] } → ItemsOf (SignAt x) acc' x.cps.size → R (.ok (.ret res)) { s with heap := h', toks := tk }) :
    wpAny (model prog w) A.in1 (Builtin.List.listExtendWith (.ref S) (.str x t) res)
      (fun fin s' => match fin with | .done f => R (.ok f) s' | .again c' => c'.quiet = true ∧ codeAny (model prog w) A c' R s') (fun e s' => R (.error e) s') s := by
  have hlt := Heap.lt_size hS
  have hSI : S ≠ s.heap.objs.size := Nat.ne_of_lt hlt
  have key : ∀ (ty : String) (o : Obj), (ty = "str_ascii_iterator" ∨ ty = "str_iterator") → (s.heap.push o).IsStrIter s.heap.objs.size ty x t 0 →
      ∀ (h : Heap) (c1 tk : Nat), (∀ b ob, b ≠ S → (s.heap.push o).get? b = some ob → h.get? b = some ob) → h.get? S = some { cls := .type "list", data := .seq #[] c1 } →
        codeAny (model prog w) A (.builtin "list.extend.loop" ⟨[.ref S, .ref s.heap.objs.size, res], []⟩) R { s with heap := h, toks := tk } := by
    intro ty o hty st h c1 tk hk hS1
    obtain ⟨fp, St, W, st0, hfp⟩ := walks_str (prog := prog) (w := w) (A := A.in1) hA x t ty hty o st
    have hSf : S ∉ fp := fun hm => (hfp S hm).elim (fun z => hSI z) fun z => hx1 S z rfl
    have st1 : St 0 h := W.frame 0 _ _ st0 fun b hb ob e => hk b ob (fun z => hSf (z ▸ hb)) e
    refine codeAny_extend_loopS W.toS hn S hSf res x.cps.size 0 _ #[] c1 rfl (Nat.zero_le _) st1 hS1 (ItemsOf.nil _) fun s' acc' c' hm hS' hacc => ?_
    rw [Moved.eq_with hm]
    refine hR s'.heap s'.toks acc' c' (fun b ob hb e => hm.heap b ob (fun hmem => ?_) (hk b ob hb (Heap.get?_push_of_some _ e))) hS' hacc
    rcases List.mem_cons.mp hmem with e' | hmem
    · exact hb e'
    · exact absurd (Heap.lt_size e) (by rw [List.mem_singleton.mp hmem]; exact Nat.lt_irrefl _)
  have fin : ∀ (ty : String) (o : Obj), (ty = "str_ascii_iterator" ∨ ty = "str_iterator") → (s.heap.push o).IsStrIter s.heap.objs.size ty x t 0 →
      (∀ (h : Heap) (c1 tk : Nat), (∀ b ob, b ≠ S → (s.heap.push o).get? b = some ob → h.get? b = some ob) → h.get? S = some { cls := .type "list", data := .seq #[] c1 } →
        codeAny (model prog w) A (.builtin "list.extend.loop" ⟨[.ref S, .ref s.heap.objs.size, res], []⟩) R { s with heap := h, toks := tk }) ∧ (s.heap.push o).get? S = some { cls := .type "list", data := .seq #[] c0 } :=
    fun ty o hty st => ⟨key ty o hty st, Heap.get?_push_of_some _ hS⟩
  unfold Builtin.List.listExtendWith
  refine wpAny_bind (wpAny_typeOf (T := "str") (typeIs_str s x t) ?_)
  have h1 : Builtin.List.listSameRef (.ref S) (.str x t) = false := by rfl
  simp only [h1, show (Value.type "str" == Value.type "list") = false from by decide, show (Value.type "str" == Value.type "tuple") = false from by decide, Bool.or_false, Bool.false_eq_true, if_false]
  cases ha : x.cps.all (· < 128)
  · refine wpAny_bind (wpAny_pyIter_wide ha ?_)
    obtain ⟨k1, k2⟩ := fin "str_iterator" { cls := .type "str_iterator", data := .fields #[.str x t, .int 0 0] } (.inr rfl) ⟨_, Heap.get?_push_size _ rfl, rfl, rfl⟩
    refine wpAny_bind (wpAny_holding (hint_str ?_))
    refine wpAny_ite_split (fun _ => ?_) (fun _ => wpAny_pure ⟨plainId_quiet PySem.F.plain_extend_loop _, k1 _ c0 _ (fun b o _ e => e) k2⟩)
    refine wpAny_bind (wpAny_rule ?_)
    refine wpAny_bind ?_
    show wpAny _ _ (updateSeq S (·.push .none) >>= fun _ => updateSeq S (·.pop)) _ _ _
    refine wpAny_bind (wpAny_updateSeq k2 rfl ?_)
    have hS2 := Heap.get?_update_self (Obj.mapSeq (·.push Value.none)) k2 rfl
    refine wpAny_updateSeq (hz := by seq_fits) hS2 rfl ?_
    have hS3 := Heap.get?_update_self (Obj.mapSeq (·.pop)) hS2 rfl
    exact wpAny_pure ⟨plainId_quiet PySem.F.plain_extend_loop _, k1 _ _ _ (fun b o hb e => (Heap.get?_update_other _ _ (Ne.symm hb)).trans ((Heap.get?_update_other _ _ (Ne.symm hb)).trans e)) hS3⟩
  · refine wpAny_bind (wpAny_pyIter_ascii ha ?_)
    obtain ⟨k1, k2⟩ := fin "str_ascii_iterator" { cls := .type "str_ascii_iterator", data := .fields #[.str x t, .int 0 0] } (.inl rfl) ⟨_, Heap.get?_push_size _ rfl, rfl, rfl⟩
    refine wpAny_bind (wpAny_holding (hint_str ?_))
    refine wpAny_ite_split (fun _ => ?_) (fun _ => wpAny_pure ⟨plainId_quiet PySem.F.plain_extend_loop _, k1 _ c0 _ (fun b o _ e => e) k2⟩)
    refine wpAny_bind (wpAny_rule ?_)
    refine wpAny_bind ?_
    show wpAny _ _ (updateSeq S (·.push .none) >>= fun _ => updateSeq S (·.pop)) _ _ _
    refine wpAny_bind (wpAny_updateSeq k2 rfl ?_)
    have hS2 := Heap.get?_update_self (Obj.mapSeq (·.push Value.none)) k2 rfl
    refine wpAny_updateSeq (hz := by seq_fits) hS2 rfl ?_
    have hS3 := Heap.get?_update_self (Obj.mapSeq (·.pop)) hS2 rfl
    exact wpAny_pure ⟨plainId_quiet PySem.F.plain_extend_loop _, k1 _ _ _ (fun b o hb e => (Heap.get?_update_other _ _ (Ne.symm hb)).trans ((Heap.get?_update_other _ _ (Ne.symm hb)).trans e)) hS3⟩
theorem list_of_str {x : Str} {t : Tok} {Q : Value → Shared → Prop} (hA : WarmA A s.heap) (hn : x.cps.size ≤ sizeLine)
    (hQ : ∀ h' tk acc' c', (∀ b o, s.heap.get? b = some o → h'.get? b = some o) → h'.get? s.heap.objs.size = some { cls := .type "list", dict := none, data := .seq acc' c', slots := #[] } → ItemsOf (SignAt x) acc' x.cps.size → Q (.ref s.heap.objs.size) { s with heap := h', toks := tk }) :
    wpAny (model prog w) A (call (.type "list") [.str x t]) Q E s := by
  have hx1 : ∀ x1, A.handled = some (.ref x1) → x1 < s.heap.objs.size := fun x1 hx => by
    rcases hA with hA | ⟨x2, hh, o1, vs1, h1, _⟩
    · rw [hA] at hx; cases hx
    · rw [hh] at hx
      cases hx
      exact Heap.lt_size h1
  refine callType_codes (Q₁ := fun obj s1 => obj = .ref s.heap.objs.size ∧ s1 = { s with heap := s.heap.push { cls := .type "list", data := .seq #[] } }) PySem.F.called_list (PySem.F.typeCall_list_1 _) PySem.F.entry_list_init
    (code_list_new _ ⟨rfl, rfl⟩) fun obj s1 h1 => ?_
  obtain ⟨rfl, rfl⟩ := h1
  have hS : (s.heap.push { cls := .type "list", data := .seq #[] }).get? s.heap.objs.size = some { cls := .type "list", data := .seq #[] } := Heap.get?_push_size _ rfl
  refine ⟨⟨_, hS, rfl⟩, PySem.F.args_list_init_2 _ _, ?_⟩
  show wpAny _ _ (do let old ← Builtin.List.listItems (.ref s.heap.objs.size); Builtin.List.listUpdate (.ref s.heap.objs.size) (fun _ => #[]); letGo old.toList.reverse; Builtin.List.listExtendWith (.ref s.heap.objs.size) (.str x t) .none) _ _ _
  refine wpAny_bind ?_
  unfold Builtin.List.listItems
  refine wpAny_bind (wpAny_seqItems hS rfl (wpAny_pure ?_))
  show wpAny _ _ (updateSeq s.heap.objs.size (fun _ => #[]) >>= fun _ => letGo (#[] : Array Value).toList.reverse >>= fun _ => Builtin.List.listExtendWith (.ref s.heap.objs.size) (.str x t) .none) _ _ _
  refine wpAny_bind (wpAny_updateSeq hS rfl ?_)
  have hS2 := Heap.get?_update_self (Obj.mapSeq (fun _ => (#[] : Array Value))) hS rfl
  have oth : ∀ b o, b ≠ s.heap.objs.size → (s.heap.push { cls := .type "list", data := .seq #[] }).get? b = some o → ((s.heap.push { cls := .type "list", data := .seq #[] }).update s.heap.objs.size (Obj.mapSeq (fun _ => (#[] : Array Value)))).get? b = some o :=
    fun b o hb e => (Heap.get?_update_other _ _ (Ne.symm hb)).trans e
  have old : ∀ b o, s.heap.get? b = some o → ((s.heap.push { cls := .type "list", data := .seq #[] }).update s.heap.objs.size (Obj.mapSeq (fun _ => (#[] : Array Value)))).get? b = some o :=
    fun b o e => oth b o (Nat.ne_of_lt (Heap.lt_size e)) (Heap.get?_push_of_some _ e)
  refine wpAny_bind (wpAny_letGo ?_)
  have hA2 : WarmA A ((s.heap.push { cls := .type "list", data := .seq #[] }).update s.heap.objs.size (Obj.mapSeq (fun _ => (#[] : Array Value)))) := hA.elim .inl fun ⟨x2, hh, o1, vs1, h1, r⟩ => .inr ⟨x2, hh, o1, vs1, old _ _ h1, r⟩
  refine extend_str (A := A.in1) (s := { s with heap := (s.heap.push { cls := .type "list", data := .seq #[] }).update s.heap.objs.size (Obj.mapSeq (fun _ => (#[] : Array Value))) }) hA2 s.heap.objs.size .none _ hS2 hn (fun x1 hx => Nat.ne_of_lt (hx1 x1 hx)) fun h' tk acc' c' hk hS' hacc => ?_
  exact ⟨rfl, hQ h' tk acc' c' (fun b o e => hk b o (Nat.ne_of_lt (Heap.lt_size e)) (old b o e)) hS' hacc⟩
end
/-- the signs of a text, each a text -/
def signs (x : Str) : List V := (TL.tl x).map fun c => V.str ⟨#[c]⟩
theorem call_list_str {X : Cx} (hc : Warm X) : CallR X (.type "list") (fun xs H Q => ∃ x, xs = [.str x] ∧ x.length ≤ sizeLine ∧ ∀ l, H l = none → Q (.ref l) (upd H l (.lst (signs x)))) := by
  intro pins s σ H xs us Q I r h
  obtain ⟨x, rfl, hz, q⟩ := h
  obtain ⟨u, rfl, t, rfl⟩ := vals1 r
  have hz' : x.cps.size ≤ sizeLine := hz
  refine list_of_str (hc.at I) hz' fun h' tk acc' c' hk hS hacc => ?_
  refine ⟨.ref s.heap.objs.size, _, I.laid hk (Nat.le_refl _) (show ObjOk X.prog X.w _ h' _ (.lst (signs x)) from ⟨?_, acc'.toList, c', ?_, ?_⟩), rfl, q _ (I.hok.fresh (Nat.le_refl _))⟩
  · unfold signs
    rw [List.length_map]
    simpa [TL.tl] using hz'
  · refine vals_of_at ?_ fun j y v h1 h2 => ?_
    · unfold signs
      rw [List.length_map]
      simpa [TL.tl] using hacc.1.symm
    · obtain ⟨c, tk', hc', rfl⟩ := hacc.2 j v (by rw [← Array.getElem?_toList]; exact h2)
      unfold signs at h1
      rw [List.getElem?_map] at h1
      have e : (TL.tl x)[j]? = some c := by
        unfold TL.tl
        rw [Array.getElem?_toList]
        exact hc'
      rw [e] at h1
      cases h1
      exact ⟨tk', rfl⟩
  · rw [Array.toArray_toList]
    exact hS

/-! ### text * int -/
theorem foldl_rep (a : Array Nat) (n : Nat) : ((List.replicate n a).foldl (· ++ ·) #[]).size = n * a.size := by
  have key : ∀ (n : Nat) (b : Array Nat), ((List.replicate n a).foldl (· ++ ·) b).size = b.size + n * a.size := by
    intro n
    induction n with
    | zero => intro b; simp
    | succ n ih =>
      intro b
      rw [List.replicate_succ, List.foldl_cons, ih, Array.size_append, Nat.succ_mul]
      omega
  rw [key n #[]]
  simp
def rRepS : R2 := fun x y H Q => ∃ z n, x = .str z ∧ y = .int n ∧ 1 ≤ n ∧ n ≤ 1000 ∧ 1 ≤ z.length ∧ z.length ≤ 1000 ∧ ∀ t : Str, (t.length : Int) = n * z.length → Q (.str t) H
theorem op_mulS {X : Cx} : OpR X (binaryOp .Mult) rRepS := by
  intro pins s σ H x y v u Q I rx ry h
  obtain ⟨z, n, rfl, rfl, h1, h2, h3, h4, q⟩ := h
  obtain ⟨t, rfl⟩ := rx
  obtain ⟨t', rfl⟩ := ry
  have hz : z.length ≠ 0 := by omega
  refine P.mul_str ?_ (fun _ _ hgt => ?_) (fun _ _ => ?_) ?_
  · rw [decide_eq_false (by omega), decide_eq_false (by omega)]
    rfl
  · have e : (2 ^ 63 - 1 : Int) / n ≥ 9000000000000000 := by
      refine Int.le_ediv_of_mul_le (by omega) ?_
      have : (9000000000000000 : Int) * n ≤ 9000000000000000 * 1000 := by omega
      omega
    omega
  · unfold Builtin.Str.tooLong
    refine decide_eq_false ?_
    have hn : n.toNat ≤ 1000 := by omega
    have : z.length * n.toNat ≤ 1000 * 1000 := Nat.mul_le_mul h4 hn
    rw [sizeLine_eq]
    omega
  · rw [if_neg (by omega)]
    by_cases e1 : n = 1
    · subst e1
      rw [if_pos (by rfl)]
      exact ⟨.str z, H, I, ⟨_, rfl⟩, q z (by omega)⟩
    · rw [if_neg (by simp [e1, hz])]
      refine ⟨?_, ⟨.str _, H, I.tok _, ⟨_, rfl⟩, q _ ?_⟩⟩
      · show ((List.replicate n.toNat z.cps).foldl (· ++ ·) #[]).size ≤ sizeLine
        rw [foldl_rep, sizeLine_eq]
        have hn : n.toNat ≤ 1000 := by omega
        have : n.toNat * z.cps.size ≤ 1000 * 1000 := Nat.mul_le_mul hn h4
        omega
      · show (((List.replicate n.toNat z.cps).foldl (· ++ ·) #[]).size : Int) = n * z.length
        rw [foldl_rep]
        have e : ((n.toNat : Nat) : Int) = n := by omega
        rw [Int.natCast_mul, e]
        rfl
end TK

/-! TK4: C.__init__(self, ..); an own exception made; a def's promise calm and hot; a token is out. -/
namespace TK
open PySem PySem.Spec PyProof.Rows L2

/-! ### C.m(e, ..), m a plain def of the class C of the text -/
section
variable {X : Cx} {CX : CXT} {x m : Str} {CT fI : Addr} {k : Nat} {fd : FuncData} {ps : List Str} {sp : Sp} {mc : Value} {E : XK} {e : Expr} {es : List Expr} {ta : TA} {p1 p2 pos : Pos} {pl : Sem Bool}
theorem pe_ownInit (hg : Gl X x) (gC : X.mg x = some (.ref CT)) (ga : PySem.W.specialIn X.K (.ref CT) "__getattribute__" = some (some (.builtin "type.__getattribute__"))) (rd : PySem.W.readsIn X.K CT mc = true)
    (fc : PySem.W.findCls X.K (.ref CT) mc m = some (.val (.ref fI))) (kp : PySem.W.keepIn X.K (.ref fI) = true) (F : FnOk X.prog X.w X.K X.mg X.base CX k fI fd ps sp) (hr : Room k X.A) (hb : Binds X.K fd ps []) (hx : Passes CX X E) (ha : PA X (e :: es) ta)
    (hc : eval (.Call (.Attribute (.Name x p1) m p2) (e :: es) [] pos) X.env = (do
      let ov ← eval (.Name x p1) X.env
      standAt p2.atName
      let (f, first) ← holding [ov] (getMethod ov m pl)
      callWith pos f first (backTo pos (starEach (e :: es) X.env)) (backToKw pos (keywordEach [] X.env))) := by rfl)
    (hdb : (x == ("__debug__" : Str)) = false := by decide) (he : starEach (e :: es) X.env = (false, eval e X.env) :: starEach es X.env := by rfl) (hpl : (backTo pos (starEach es X.env)).any (·.1) = false := by rfl) :
    PE X (.Call (.Attribute (.Name x p1) m p2) (e :: es) [] pos) (tCall sp [] E ta) := by
  refine ⟨fun pins s σ H Q I h => ?_⟩
  refine PySem.W.methodCall_KW (ld_glob I hg gC ?_ hdb) hc
  refine PySem.W.method_cls I.kIn ga (PySem.W.cls_value I.kIn rd fc rfl ?_)
  refine PySem.W.callWith_K (first := []) (h₀ := X.base) I.ok.mod.kin kp (thn (ha.run pos pins _ σ H _ (I.tok _) h) fun us s1 ⟨vs, H1, I1, r, q⟩ => ⟨I1.kIn, ?_⟩) he hpl
  exact run_fn F hr hb .nil hx I1 r q
end

/-! ### C(e, ..), C an own exception: made, its context None -/
theorem pmk_oexN {X : Cx} {CX : CXT} {x : Str} {e : Expr} {es : List Expr} {ta : TA} {p pos : Pos} {C fI : Addr} {k : Nat} {fd : FuncData} {ps : List Str} {sp : Sp} (T : OexC X.K C) (iC : PySem.W.findIn X.K (.ref C) "__init__" = some (some (.ref fI))) (tI : PySem.W.typeIn X.K (.ref fI) = some (.type "function"))
    (F1 : FnOk X.prog X.w X.K X.mg X.base CX k fI fd ps sp) (hr : Room (k + 1) X.A) (hb : Binds X.K fd ps []) (hx : Passes CX X (fun _ _ _ => False)) (hg : Gl X x) (hm : X.mg x = some (.ref C)) (ha : PA X (e :: es) ta)
    (hdb : (x == ("__debug__" : Str)) = false := by decide) (he : starEach (e :: es) X.env = (false, eval e X.env) :: starEach es X.env := by rfl) (hpl : (backTo pos (starEach es X.env)).any (·.1) = false := by rfl) :
    L2N.PMk X (.Call (.Name x p) (e :: es) [] pos) (tMkO C sp [] ta) := by
  intro pins s σ H Q I h
  obtain ⟨nm, q, N, bs, bm, sn, sub, ab, col, dd, k0, k1, k2, k3, k5, hC, hbm⟩ := T.cls
  refine wpAny_Call_Name_kw (ld_glob I hg hm ?_ hdb)
  refine PySem.W.callWith_K (h₀ := X.base) I.ok.mod.kin T.kC (thn (ha.run pos pins s σ H _ I h) fun us s1 ⟨vs, H1, I1, r1, hz, q1⟩ => ⟨I1.kIn, ?_⟩) he hpl
  show wpAny _ _ (call (.ref C) us) _ _ _
  obtain ⟨hp, g, dr, tk, os⟩ := s1
  have hsz : hp.objs.size ≤ hp.objs.size + 1 := Nat.le_succ _
  have hq := q1 (hp.objs.size + 1) (I1.hok.fresh hsz)
  rw [List.append_nil] at hq
  have kk : ∀ b o, hp.get? b = some o → ((hp.push (PySem.W.kdv_tup us)).push (PySem.HandSPX.excO C hp.objs.size)).get? b = some o := fun b o e => Heap.get?_push_of_some _ (Heap.get?_push_of_some _ e)
  have hget : ((hp.push (PySem.W.kdv_tup us)).push (PySem.HandSPX.excO C hp.objs.size)).get? (hp.objs.size + 1) = some (PySem.HandSPX.excO C hp.objs.size) := by heap_get
  have I2 : Inv X pins σ (upd H1 (hp.objs.size + 1) (exo (hp.objs.size + 1) C none)) ⟨(hp.push (PySem.W.kdv_tup us)).push (PySem.HandSPX.excO C hp.objs.size), g, dr, tk, os⟩ :=
    I1.laid (t' := tk) (o := exo (hp.objs.size + 1) C none) kk hsz (exo_ok hget)
  have r2 : Vals (V.ref (hp.objs.size + 1) :: vs) (Value.ref (hp.objs.size + 1) :: us) := .cons rfl r1
  have hl : (Value.ref (hp.objs.size + 1) :: us ++ []).length = ps.length := by
    rw [List.append_nil, ← r2.length]
    exact F1.len _ _ _ _ hq
  have hus : us.length ≤ sizeLine := by
    rw [← Paired.length r1, sizeLine_eq]
    omega
  have b2 := hb _ (Value.ref (hp.objs.size + 1) :: us) I2.kIn hl
  rw [List.append_nil] at b2
  refine wpAny_call (PySem.HandSPX.call_own F.excBase_ValueError (fun Y => PySem.HandSPX.refsVE_contains Y bm hbm) (I1.kIn _ _ hC) (PySem.W.looks_findIn I1.kIn iC) (fun self => PySem.W.bind_fn I1.kIn self tI) hus
    (codeAny_mono (F1.run _ X.stack _ _ ⟨Value.ref (hp.objs.size + 1) :: us, []⟩ (Value.ref (hp.objs.size + 1) :: us) _ _ (fun _ _ _ => False) (hr.make C us []) (I2.env0.make C us []) b2 r2 hq) fun r s' hq' => ?_))
  rcases r with er | fl
  · exact hx pins σ _ _ er s' I2 hq'
  · cases fl with
    | ret u =>
      obtain ⟨v, H2, os2, bare2, un2, hok2, rv, ev, d, fs, ea, ed, hd1, q2⟩ := hq'
      subst ev
      obtain ⟨h2, g2, d2, t2, os'⟩ := s'
      obtain ⟨t0, G, J, kG, ge, hoe, na⟩ := mk_end0 (d2 := d2) (t2 := t2) I1 hsz kk un2 hok2 os2 bare2 ea ed hd1
      exact ⟨rv, ⟨hp.objs.size + 1, _, _, ⟨G, g2, d2, t2, os'⟩, _, .ref C, some d, rfl, J, kG, ge, hoe, ⟨rfl, rfl, fun vs hv => by cases hv; rfl⟩, rfl, rfl, na, rfl, bare2, raises_own T.exC T.tyC, q2⟩⟩
    | next => exact False.elim hq'
    | brk => exact False.elim hq'
    | cont => exact False.elim hq'

/-! ### a def by its body, whatever it may let out -/
section
variable {P : Program} {w : World} {K : PySem.W.Frag} {mg : Str → Option Value} {base : Heap} {CX : CXT} {x qual : Str} {st : Stmt} {f : Addr} {fd : FuncData} {N ps : List Str} {k : Nat} {sp : Sp}
theorem okG (F : Fun K x qual st f fd) (S : FnScope N ps (defScope st)) (len : ∀ vs H Q E, sp vs H Q E → vs.length = ps.length)
    (hbody : ∀ (cdv : Value) (A : Around) (outer : List Env) (s : Shared) (H : Hp) (vs : List V) (Q : VK) (E : XK), Room k (A.deeper (envOfC qual (defScope st) s.heap.objs.size f cdv)) → sp vs H Q E →
      ∃ t, PSs (cxOf CX P w K mg base N qual (defScope st) f cdv A outer s H E) (defBody st) t ∧ t { nx := fun _ H' => Q .non H', rt := Q } (start N vs) H) : FnOk P w K mg base CX (k + 1) f fd ps sp := by
  obtain ⟨oc, od, kV, doc, pm, an, cdv, ct, osl, rfl, lk, hcd⟩ := F.ex
  exact fn_of lk hcd S len fun A outer s H vs Q E hr hsp => hbody cdv A outer s H vs Q E hr hsp

/-! ### a def that raises nothing, called calm or hot -/
structure FnW (P : Program) (w : World) (K : PySem.W.Frag) (mg : Str → Option Value) (base : Heap) (k : Nat) (f : Addr) (fd : FuncData) (ps : List Str) (sp : Sp) : Prop where
  ok : FnOk P w K mg base CX0 k f fd ps sp
  hot : L2H.FnH P w K mg base CX0 k f fd ps sp
/-- the context of its body -/
abbrev cxW (P : Program) (w : World) (K : PySem.W.Frag) (mg : Str → Option Value) (base : Heap) (N : List Str) (qual : Str) (scope : Scope) (f : Addr) (cd : Value) (A : Around) (outer : List Env) (s : Shared) (H : Hp) (calm : Bool) (pn : List (Addr × Obj)) : Cx where
  prog := P
  w := w
  K := K
  mg := mg
  base := base
  A := A.deeper (envOfC qual scope s.heap.objs.size f cd)
  N := N
  s_0 := s
  H_0 := H
  env := envOfC qual scope s.heap.objs.size f cd
  outer := outer
  stack := envOfC qual scope s.heap.objs.size f cd :: outer
  ex := []
  calm := calm
  fn := fun _ => true
  pn := pn
  xe := fun _ _ => False
theorem okW (F : Fun K x qual st f fd) (S : FnScope N ps (defScope st)) (len : ∀ vs H Q E, sp vs H Q E → vs.length = ps.length)
    (hbody : ∀ (cdv : Value) (A : Around) (outer : List Env) (s : Shared) (H : Hp) (vs : List V) (Q : VK) (E : XK) (calm : Bool) (pn : List (Addr × Obj)), L2H.RoomH k (A.deeper (envOfC qual (defScope st) s.heap.objs.size f cdv)) →
      Warm (cxW P w K mg base N qual (defScope st) f cdv A outer s H calm pn) → sp vs H Q E →
      ∃ t, PSs (cxW P w K mg base N qual (defScope st) f cdv A outer s H calm pn) (defBody st) t ∧ t { nx := fun _ H' => Q .non H', rt := Q } (start N vs) H) : FnW P w K mg base (k + 1) f fd ps sp := by
  obtain ⟨oc, od, kV, doc, pm, an, cdv, ct, osl, rfl, lk, hcd⟩ := F.ex
  refine ⟨fn_of lk hcd S len fun A outer s H vs Q E hr hsp => ?_, L2H.fn_ofH lk hcd S len fun A outer s H vs Q E p hot hr hsp => ?_⟩
  · obtain ⟨t, h, q⟩ := hbody cdv A outer s H vs Q E true [] (L2H.roomH_of hr) (.inl rfl) hsp
    exact ⟨t, PSs.nox (X := cxOf CX0 P w K mg base N qual (defScope st) f cdv A outer s H E) h, q⟩
  · obtain ⟨t, h, q⟩ := hbody cdv A outer s H vs Q E false [p] hr (.inr ⟨p, ⟨hot.1, hot.2⟩, List.mem_singleton.mpr rfl⟩) hsp
    exact ⟨t, PSs.nox (X := L2H.cxH CX0 P w K mg base N qual (defScope st) f cdv A outer s H E p) h, q⟩
end
section
variable {X : Cx} {k : Nat} {f : Addr} {fd : FuncData} {ps : List Str} {sp : Sp} {x : Str} {p pos : Pos} {e : Expr} {es : List Expr} {t : TA}
theorem pe_callW (F : FnW X.prog X.w X.K X.mg X.base k f fd ps sp) (hr : L2H.RoomH k X.A) (hc : Warm X) (hg : Gl X x) (hm : X.mg x = some (.ref f)) (hk : PySem.W.keepIn X.K (.ref f) = true) (hb : Binds X.K fd ps [])
    (ha : PA X (e :: es) t) (hdb : (x == ("__debug__" : Str)) = false := by decide) (he : starEach (e :: es) X.env = (false, eval e X.env) :: starEach es X.env := by rfl) (hpl : (backTo pos (starEach es X.env)).any (·.1) = false := by rfl) :
    PE X (.Call (.Name x p) (e :: es) [] pos) (tCall sp [] E0 t) := by
  refine ⟨fun pins s σ H Q I h => ?_⟩
  rcases hc with hc | hc
  · exact (pe_call F.ok ⟨I.ok.hd hc, hr.dp, hr.un⟩ hg hm hk hb .nil pass0 ha hdb he hpl).run pins s σ H Q I h
  · refine (L2H.pe_callH (E := fun _ => E0) F.hot hr hc hg hm hk hb (fun _ _ _ _ _ _ _ z => z.elim) ha hdb he hpl).run pins s σ H Q I ?_
    have h' : t σ H fun vs H1 => sp (vs ++ []) H1 Q E0 := h
    simp only [List.append_nil] at h'
    exact h'
end

/-! ### a token is out -/
section
variable {X : Cx} {o e : Expr} {to te : TE} {pos : Pos}
theorem pet_split {apos : Pos} (ho : PET X o to) (he : PE X e te) (hs : starEach [e] X.env = [(false, eval e X.env)] := by rfl) (hbase : attributeBase o "split" X.env (eval o X.env) = eval o X.env := by rfl) (hline : (apos.endLine == pos.line) = true := by rfl) :
    PET X (.Call (.Attribute o "split" apos) [e] [] pos) (tM1 (fun x xs H Q => ∃ a b, x = .str a ∧ xs = [.str b] ∧ (b.length == 0) = false ∧ a.length + 2 ≤ sizeLine ∧ rNewStrs (Txt.split a b) H Q) to te) := by
  intro pins s σ H Q h0 I h
  refine PySem.Call_method1 hbase hs hline (thn (ho pins s σ H _ h0 I h) fun v s1 ⟨x, H1, I1, r1, q1⟩ => ?_)
  obtain ⟨⟨a, rfl⟩, q1⟩ := q1
  obtain ⟨t, rfl⟩ := _root_.id r1
  refine ⟨"str", _, F.plainAttrs_str, F.slot_str_split, F.type_str_split, typeIs_str _ _ _, (fun _ e => nomatch e), Calls.callWith_builtin rfl (Calls.evalArgs_plain (Calls.spliced_cons ?_))⟩
  exact thn (he.run pins s1 σ H1 _ I1 q1) fun u s2 ⟨y, H2, I2, r2, q2⟩ => Calls.spliced_nil (mt_split pins s2 σ H2 _ [y] _ [u] Q I2 r1 (.cons r2 .nil) q2)
theorem pst_set {i : Nat} {x : Str} {pos' : Pos} (hN : X.N.Nodup) (hi : X.N[i]? = some x) (hx : Loc X.env.scope x) (he : PET X e te) (hs : swapsWith e (some (.Name x pos')) pos.line X.env = pure false := by rfl) (hf : X.fn x = true ∨ X.env.scope.names.lookup x = some .local := by first | exact .inl rfl | exact .inr rfl | assumption) :
    PST X (.Assign [.Name x pos'] e pos) (tAsg te (gName i)) := by
  intro pins s σ H D h0 I h
  refine wpAny_Assign_Name (thn (he pins s σ H _ h0 I h) fun v s1 ⟨y, H1, I1, r1, q1⟩ => ?_) hs
  exact store_ok I1 hN hi hx r1 (fun s2 I2 => ⟨_, H1, I2, q1⟩) hf
/-- x = f(a, 300): behind the written int a token is out -/
theorem psst_first {CX : CXT} {k i j : Nat} {f : Addr} {fd : FuncData} {ps : List Str} {sp : Sp} {E : XK} {x y : Str} {n : Int} {a : Expr} {ta : TE} {p cpos pos' pos2 : Pos} {rest : List Stmt} {u : TS}
    (hN : X.N.Nodup) (hi : X.N[i]? = some y) (hy : Loc X.env.scope y) (F : FnOk X.prog X.w X.K X.mg X.base CX k f fd ps sp) (hr : Room k X.A) (hg : Gl X x) (hm : X.mg x = some (.ref f)) (hk : PySem.W.keepIn X.K (.ref f) = true) (hb : Binds X.K fd ps []) (hx : Passes CX X E)
    (ha : PE X a ta) (h2 : PSsT X rest u) (hdb : (x == ("__debug__" : Str)) = false := by decide)
    (he : starEach (a :: [.Constant (.int n) j cpos]) X.env = (false, eval a X.env) :: starEach [.Constant (.int n) j cpos] X.env := by rfl) (he2 : starEach [.Constant (.int n) j cpos] X.env = [(false, eval (.Constant (.int n) j cpos) X.env)] := by rfl)
    (hpl : (backTo pos (starEach [.Constant (.int n) j cpos] X.env)).any (·.1) = false := by rfl)
    (hs : swapsWith (.Call (.Name x p) [a, .Constant (.int n) j cpos] [] pos) (some (.Name y pos')) pos2.line X.env = pure false := by rfl) (hf : X.fn y = true ∨ X.env.scope.names.lookup y = some .local := by first | exact .inl rfl | exact .inr rfl | assumption) :
    PSs X (.Assign [.Name y pos'] (.Call (.Name x p) [a, .Constant (.int n) j cpos] [] pos) pos2 :: rest) (tSeq (tAsg (tCall sp [] E (tCons ta (tCons (tC (.int n)) tNil))) (gName i)) u) := by
  refine ⟨fun pins s σ H D I h => ?_⟩
  refine wpAny_execs_cons (wpAny_Assign_Name ?_ hs)
  refine wpAny_Call_Name_kw (ld_glob I hg hm ?_ hdb)
  refine PySem.W.callWith_K (h₀ := X.base) I.ok.mod.kin hk ?_ he hpl
  rw [he]
  show wpAny _ _ (spliced ((false, eval a X.env) :: backTo pos (starEach [.Constant (.int n) j cpos] X.env))) _ _ s
  refine Calls.spliced_cons (thn (ha.run pins s σ H _ I h) fun v1 s1 ⟨x1, H1, I1, r1, q1⟩ => ?_)
  rw [he2]
  show wpAny _ _ (spliced ((false, eval (.Constant (.int n) j cpos) X.env) :: backTo pos [])) _ _ s1
  refine Calls.spliced_cons (wpAny_Constant_int (Calls.spliced_nil ?_))
  refine ⟨I1.kIn, ?_⟩
  refine wpAny_mono (PySem.wpAny_toks (run_fn (us := [v1, .int n s1.toks]) F hr hb .nil hx (I1.tok (s1.toks + 1)) (.cons r1 (.cons (show RelV (.int n) (Value.int n s1.toks) from ⟨_, rfl⟩) .nil)) q1)) (fun v2 s2 q => ?_) fun _ _ z => z.2
  obtain ⟨hk2, z, H2, I2, r2, q2⟩ := q
  refine wpAny_mono (PySem.wpAny_toks (store_ok I2 hN hi hy r2 (Q := fun _ s3 => Inv X pins (σ.set i (some z)) H2 s3) (fun s3 I3 => I3) hf)) (fun _ s3 q3 => ?_) fun _ _ z => z.2
  obtain ⟨hk3, I3⟩ := q3
  have hk2' : s1.toks + 1 ≤ s2.toks := hk2
  exact h2 pins s3 _ H2 D (by omega) I3 q2
end
end TK

/-! TC0: the text by places; what the top has written; a def as its callers see it; heaps that part at the stream alone. -/
namespace TK
open PySem PySem.Spec PyProof.Rows L2
def topS (i : Nat) : Stmt := PySem.Challenge.pw_talkalike_k22_whole_text_or_first_bad_li.main.body.getD i (.Pass ⟨0, 0, 0, 0⟩)
def LET : Str := "abcdefghijklmnopqrstuvwxyz"
def DIG : Str := "0123456789"
structure Txt (mg : Str → Option Value) (t1 t2 t3 t4 t5 : Tok) : Prop where
  m_len : mg "len" = none
  m_range : mg "range" = none
  m_int : mg "int" = none
  m_str : mg "str" = none
  m_abs : mg "abs" = none
  m_all : mg "all" = none
  m_min : mg "min" = none
  m_list : mg "list" = none
  m_tuple : mg "tuple" = none
  m_bool : mg "bool" = none
  m_isinstance : mg "isinstance" = none
  g_LETTERS : mg "LETTERS" = some (.str LET t1)
  g_DIGITS : mg "DIGITS" = some (.str DIG t2)
  g_DIGITS_MOST : mg "DIGITS_MOST" = some (.int 30 t3)
  g_NAME_MOST : mg "NAME_MOST" = some (.int 12 t4)
  g_VALUES_MOST : mg "VALUES_MOST" = some (.int 3 t5)

/-! ### a def as its callers see it -/
structure Cal (P : Program) (w : World) (K : PySem.W.Frag) (mg : Str → Option Value) (base : Heap) (CX : CXT) (k : Nat) (x : Str) (ps : List Str) (sp : Sp) : Prop where
  ex : ∃ (f : Addr) (fd : FuncData), FnOk P w K mg base CX k f fd ps sp ∧ mg x = some (.ref f) ∧ PySem.W.keepIn K (.ref f) = true ∧ Binds K fd ps []
structure CalW (P : Program) (w : World) (K : PySem.W.Frag) (mg : Str → Option Value) (base : Heap) (k : Nat) (x : Str) (ps : List Str) (sp : Sp) : Prop where
  ex : ∃ (f : Addr) (fd : FuncData), FnW P w K mg base k f fd ps sp ∧ mg x = some (.ref f) ∧ PySem.W.keepIn K (.ref f) = true ∧ Binds K fd ps []
/-- with one default None behind the written arguments -/
structure CalD (P : Program) (w : World) (K : PySem.W.Frag) (mg : Str → Option Value) (base : Heap) (CX : CXT) (k : Nat) (x : Str) (ps : List Str) (sp : Sp) : Prop where
  ex : ∃ (f : Addr) (fd : FuncData), FnOk P w K mg base CX k f fd ps sp ∧ mg x = some (.ref f) ∧ PySem.W.keepIn K (.ref f) = true ∧ Binds K fd ps [] ∧ ∃ ds, Vals [V.non] ds ∧ Binds K fd ps ds
section
variable {X : Cx} {CX : CXT} {k : Nat} {ps : List Str} {sp : Sp} {E : XK} {x : Str} {p pos : Pos} {e : Expr} {es : List Expr} {t : TA}
theorem pe_cal (C : Cal X.prog X.w X.K X.mg X.base CX k x ps sp) (hr : Room k X.A) (hg : Gl X x) (hx : Passes CX X E) (ha : PA X (e :: es) t)
    (hdb : (x == ("__debug__" : Str)) = false := by decide) (he : starEach (e :: es) X.env = (false, eval e X.env) :: starEach es X.env := by rfl) (hpl : (backTo pos (starEach es X.env)).any (·.1) = false := by rfl) :
    PE X (.Call (.Name x p) (e :: es) [] pos) (tCall sp [] E t) := by
  obtain ⟨f, fd, F, hm, hk, hb⟩ := C.ex
  exact pe_call F hr hg hm hk hb .nil hx ha hdb he hpl
theorem CalD.cal {P : Program} {w : World} {K : PySem.W.Frag} {mg : Str → Option Value} {base : Heap} (C : CalD P w K mg base CX k x ps sp) : Cal P w K mg base CX k x ps sp :=
  let ⟨f, fd, F, hm, hk, hb, _⟩ := C.ex; ⟨f, fd, F, hm, hk, hb⟩
theorem CalW.cal {P : Program} {w : World} {K : PySem.W.Frag} {mg : Str → Option Value} {base : Heap} (C : CalW P w K mg base k x ps sp) : Cal P w K mg base CX0 k x ps sp :=
  let ⟨f, fd, F, hm, hk, hb⟩ := C.ex; ⟨f, fd, F.ok, hm, hk, hb⟩
theorem pe_calW (C : CalW X.prog X.w X.K X.mg X.base k x ps sp) (hr : L2H.RoomH k X.A) (hw : Warm X) (hg : Gl X x) (ha : PA X (e :: es) t)
    (hdb : (x == ("__debug__" : Str)) = false := by decide) (he : starEach (e :: es) X.env = (false, eval e X.env) :: starEach es X.env := by rfl) (hpl : (backTo pos (starEach es X.env)).any (·.1) = false := by rfl) :
    PE X (.Call (.Name x p) (e :: es) [] pos) (tCall sp [] E0 t) := by
  obtain ⟨f, fd, F, hm, hk, hb⟩ := C.ex
  exact pe_callW F hr hw hg hm hk hb ha hdb he hpl
/-- what is raised is wished for at the caller's slots -/
theorem pe_calS {E : L2.St → XK} (C : Cal X.prog X.w X.K X.mg X.base CX k x ps sp) (hr : Room k X.A) (hg : Gl X x) (hx : ∀ σ, PassesAt CX X σ (E σ)) (ha : PA X (e :: es) t)
    (hdb : (x == ("__debug__" : Str)) = false := by decide) (he : starEach (e :: es) X.env = (false, eval e X.env) :: starEach es X.env := by rfl) (hpl : (backTo pos (starEach es X.env)).any (·.1) = false := by rfl) :
    PE X (.Call (.Name x p) (e :: es) [] pos) (tCallSD sp [] E t) := by
  obtain ⟨f, fd, F, hm, hk, hb⟩ := C.ex
  exact pe_callSD F hr hg hm hk hb .nil hx ha hdb he hpl
theorem pe_calD {E : L2.St → XK} (C : CalD X.prog X.w X.K X.mg X.base CX k x ps sp) (hr : Room k X.A) (hg : Gl X x) (hx : ∀ σ, PassesAt CX X σ (E σ)) (ha : PA X (e :: es) t)
    (hdb : (x == ("__debug__" : Str)) = false := by decide) (he : starEach (e :: es) X.env = (false, eval e X.env) :: starEach es X.env := by rfl) (hpl : (backTo pos (starEach es X.env)).any (·.1) = false := by rfl) :
    PE X (.Call (.Name x p) (e :: es) [] pos) (tCallSD sp [V.non] E t) := by
  obtain ⟨f, fd, F, hm, hk, _, ds, hd, hb⟩ := C.ex
  exact pe_callSD F hr hg hm hk hb hd hx ha hdb he hpl
end

/-! ### heaps -/
theorem same_upd {H : Hp} {p : Addr} {o : HO} (h : H p = none) : Same H (upd H p o) := fun b x e => (upd_ne (ne_of_none e h)).trans e
theorem Same.upd_new {H0 H : Hp} {p : Addr} {o : HO} (s : Same H0 H) (h : H p = none) : Same H0 (upd H p o) := s.trans (same_upd h)
/-- p holds a list of ints -/
def Strm (H : Hp) (p : Addr) : Prop := ∃ ns : List Int, H p = some (.lst (ns.map V.int))
/-- all that was tracked but p stands; p holds a list of ints -/
def But (p : Addr) (H H' : Hp) : Prop := (∀ b o, b ≠ p → H b = some o → H' b = some o) ∧ Strm H' p
theorem But.trans {p : Addr} {H H1 H2 : Hp} (a : But p H H1) (b : But p H1 H2) : But p H H2 := ⟨fun c o n e => b.1 c o n (a.1 c o n e), b.2⟩
theorem But.of_same {p : Addr} {H H' : Hp} (s : Same H H') (h : Strm H p) : But p H H' := ⟨fun b o _ e => s b o e, let ⟨ns, e⟩ := h; ⟨ns, s _ _ e⟩⟩
theorem But.refl {p : Addr} {H : Hp} (h : Strm H p) : But p H H := .of_same (Same.refl H) h
theorem Strm.ne {H : Hp} {p q : Addr} (h : Strm H p) (n : H q = none) : p ≠ q := let ⟨_, e⟩ := h; ne_of_none e n
theorem But.new {p q : Addr} {H H' : Hp} {o : HO} (a : But p H H') (n : H' q = none) : But p H (upd H' q o) := a.trans (.of_same (same_upd n) a.2)
/-- what is new behind H stays new to callers: it was not tracked -/
theorem But.none {p q : Addr} {H H' : Hp} (a : But p H H') (h : Strm H p) (n : H' q = none) : H q = none := by
  cases e : H q with
  | none => rfl
  | some o =>
    by_cases hq : q = p
    · subst hq
      exact absurd rfl (a.2.ne n)
    · rw [a.1 q o hq e] at n
      cases n
theorem But.seq {K : PySem.W.Frag} {p a : Addr} {H H' : Hp} {xs : List V} (b : But p H H') (ne : a ≠ p) (h : SqL K H a xs) : SqL K H' a xs := by
  rcases h with (h | ⟨o, h⟩) | h
  · exact .inl (.inl (b.1 _ _ ne h))
  · exact .inl (.inr ⟨o, b.1 _ _ ne h⟩)
  · exact .inr h
theorem Same.tup {K : PySem.W.Frag} {H H' : Hp} {a : Addr} {xs : List V} (e : Same H H') (h : SqT K H a xs) : SqT K H' a xs := by
  rcases h with (h | ⟨o, h⟩) | h
  · exact .inl (.inl (e _ _ h))
  · exact .inl (.inr ⟨o, e _ _ h⟩)
  · exact .inr h
/-- p, a new list, is written over -/
theorem Same.over {H0 H : Hp} {p : Addr} {o : HO} (s : Same H0 H) (n : H0 p = none) : Same H0 (upd H p o) := fun b x e => (upd_ne (ne_of_none e n)).trans (s b x e)
theorem ite_split {c A B : Prop} [Decidable c] (h1 : c → A) (h2 : ¬ c → B) : if decide c = true then A else B := by
  by_cases h : c
  · rw [decide_eq_true h]
    exact iteT (h1 h)
  · rw [decide_eq_false h]
    exact iteF (h2 h)

/-! ### two ways joined: what holds behind the first statement is said once -/
def tSeqM (t u : TS) : TS := fun D σ H => ∃ M : L2.St → Hp → Prop, t { D with nx := M } σ H ∧ ∀ σ' H', M σ' H' → u D σ' H'
theorem pss_consM {X : Cx} {st : Stmt} {rest : List Stmt} {t u : TS} (h1 : PS X st t) (h2 : PSs X rest u) : PSs X (st :: rest) (tSeqM t u) := by
  refine ⟨fun pins s σ H D I h => ?_⟩
  obtain ⟨M, h, k⟩ := h
  refine wpAny_execs_cons (thn (h1.run pins s σ H { D with nx := M } I h) fun f s1 q => ?_)
  cases f with
  | next =>
    obtain ⟨σ', H', I', q⟩ := q
    exact h2.run pins s1 σ' H' D I' (k σ' H' q)
  | ret v => exact q
  | brk => exact q
  | cont => exact q

/-! ### a list made over a range, the stream drawn from meanwhile -/
theorem lcS_range {Pd : V → Prop} {n slot : Nat} {vs : List Nat} {te : TE} {σ : L2.St} {H1 : Hp} {D p : Addr} {Qd : Hp → Prop} (hD : H1 D = none) (hp : Strm H1 p) (hn : n ≤ 1000)
    (step : ∀ (i : Nat) (H : Hp) (Q2 : VK), i < n → But p H1 H → (∀ y H4, Pd y → But p H H4 → Q2 y H4) → te ((wipe σ [slot]).set slot (some (.int (0 + i)))) H Q2)
    (done : ∀ (xs : List V) (H' : Hp), xs.length = n → (∀ x ∈ xs, Pd x) → But p H1 H' → H' D = some (.lst xs) → Qd H') (hv : vs = [slot] := by rfl) :
    ∃ W : Nat → Nat → Hp → Prop, (∃ m, W 0 m (upd H1 D (.lst []))) ∧ ∀ i m H, W i m H →
      ((Itr 0 n).stop i H ∧ Qd H) ∨ ((Itr 0 n).go i H ∧ ∃ Nx : Hp → Prop, (∀ H', Nx H' → ∃ m', m' < m ∧ W (i + 1) m' H') ∧ ∀ x H', (Itr 0 n).yld i H x H' → gName slot x (wipe σ vs) H' fun σ2 H2 => wipe σ2 vs = wipe σ vs ∧ tYes σ2 H2 fun b H3 =>
        if b = true then te σ2 H3 fun y H4 => ∃ acc, H4 D = some (.lst acc) ∧ acc.length < sizeLine ∧ Nx (upd H4 D (.lst (acc ++ [y]))) else Nx H3) := by
  subst hv
  have neD : D ≠ p := (hp.ne hD).symm
  have ne1 : ∀ b o, H1 b = some o → b ≠ D := fun b o e => ne_of_none e hD
  refine lc_range (lo := 0) (fun i H => But p H1 H ∧ ∃ xs : List V, xs.length = i ∧ (∀ x ∈ xs, Pd x) ∧ H D = some (.lst xs)) ⟨(But.refl hp).new hD, [], rfl, (fun x hx => by cases hx), upd_same⟩ (fun i H hi hP => ?_) fun H hP => ?_
  · obtain ⟨b, xs, hl, hx, hd⟩ := hP
    refine ⟨?_, ?_⟩
    · show (((wipe σ []).set slot none).set slot (some (V.int (0 + i)))).set slot none = (wipe σ []).set slot none
      simp [List.set_set]
    · dsimp only [tYes]
      rw [if_pos rfl]
      refine step i H _ hi b fun y H4 py b4 => ?_
      have hd4 : H4 D = some (.lst xs) := b4.1 D _ neD hd
      refine ⟨xs, hd4, ?_, ⟨fun c o hc e => ?_, ?_⟩, xs ++ [y], ?_, fun x hx' => ?_, upd_same⟩
      · rw [sizeLine_eq]
        omega
      · rw [upd_ne (ne1 c o e)]
        exact (b.trans b4).1 c o hc e
      · obtain ⟨ns, e⟩ := b4.2
        exact ⟨ns, (upd_ne neD.symm).trans e⟩
      · rw [List.length_append, hl]
        rfl
      · rcases List.mem_append.mp hx' with hx' | hx'
        · exact hx x hx'
        · rw [List.mem_singleton.mp hx']
          exact py
  · obtain ⟨b, xs, hl, hx, hd⟩ := hP
    exact done xs H hl hx b hd

/-! ### texts joined -/
theorem joinL_len (S : List Nat) : ∀ ls : List (List Nat), (TL.joinL S ls).length ≤ (ls.map List.length).sum + ls.length * S.length
  | [] => by simp [TL.joinL]
  | [a] => by simp [TL.joinL]
  | a :: b :: r => by
    have ih := joinL_len S (b :: r)
    have e : TL.joinL S (a :: b :: r) = a ++ (S ++ TL.joinL S (b :: r)) := by simp [TL.joinL]
    rw [e, List.length_append, List.length_append]
    simp only [List.map_cons, List.sum_cons, List.length_cons] at ih ⊢
    rw [Nat.succ_mul]
    omega
theorem join_len (y : Str) (parts : List Str) : (Txt.join y parts).length ≤ (parts.map (·.length)).sum + parts.length * y.length := by
  rw [TL.join_eq, TL.len_tl, TL.tl_join]
  refine Nat.le_trans (joinL_len _ _) ?_
  rw [List.map_map, List.length_map, TL.len_tl y]
  have e : (List.length ∘ TL.tl) = fun x : Str => x.length := by
    funext x
    exact (TL.len_tl x).symm
  rw [e]
  exact Nat.le_refl _
theorem sum_le (B : Nat) : ∀ parts : List Str, (∀ x ∈ parts, x.length ≤ B) → (parts.map (·.length)).sum ≤ parts.length * B
  | [], _ => by simp
  | a :: r, h => by
    have ih := sum_le B r fun x hx => h x (List.mem_cons_of_mem _ hx)
    have ha := h a List.mem_cons_self
    rw [List.map_cons, List.sum_cons, List.length_cons, Nat.succ_mul]
    omega
/-- a list of texts among values -/
def StrLe (B : Nat) : V → Prop := fun v => ∃ s : Str, v = .str s ∧ s.length ≤ B
theorem strs_of {B : Nat} : ∀ {xs : List V}, (∀ x ∈ xs, StrLe B x) → ∃ ys : List Str, xs = ys.map V.str ∧ ∀ y ∈ ys, y.length ≤ B
  | [], _ => ⟨[], rfl, fun y hy => by cases hy⟩
  | x :: r, h => by
    obtain ⟨s, rfl, hs⟩ := h x List.mem_cons_self
    obtain ⟨ys, e, hy⟩ := strs_of (xs := r) fun y hy => h y (List.mem_cons_of_mem _ hy)
    refine ⟨s :: ys, by rw [e]; rfl, fun y hy' => ?_⟩
    rcases List.mem_cons.mp hy' with e2 | hy'
    · rw [e2]
      exact hs
    · exact hy y hy'
end TK

/-! TG1: the draws: _law_take, _law_mixed, _law_letter, _law_text, _law_id, _law_value. -/
namespace TK
open PySem PySem.Spec PyProof.Rows L2
section
variable {P : Program} {w : World} {K : PySem.W.Frag} {mg : Str → Option Value} {base : Heap} {t1 t2 t3 t4 t5 : Tok}

/-! ### _law_take -/
abbrev s_law_take : Stmt := topS 23
theorem sc_law_take : FnScope ["_law_stream_here", "_law_bound"] ["_law_stream_here", "_law_bound"] (defScope s_law_take) := ⟨rfl, rfl, rfl, by decide +kernel, rfl, by decide +kernel, by decide +kernel⟩
/-- some int below the bound; the stream may have lost its first item -/
def spTake : Sp := fun vs H Q _ => ∃ (p : Addr) (b : Int), vs = [.ref p, .int b] ∧ 0 < b ∧ Strm H p ∧ ∀ (r : Int) H', 0 ≤ r → r < b → But p H H' → Q (.int r) H'
theorem ok_take {f : Addr} {fd : FuncData} {k : Nat} (T : Txt mg t1 t2 t3 t4 t5) (F : Fun K "_law_take" "_law_take" s_law_take f fd) : FnOk P w K mg base CX0 (k + 1) f fd ["_law_stream_here", "_law_bound"] spTake := by
  refine F.ok sc_law_take (fun vs H Q E h => ?_) (fun cdv A outer s H vs Q E hr h => ?_)
  · obtain ⟨p, b, rfl, _⟩ := h
    rfl
  · obtain ⟨p, b, rfl, hb, ⟨ns, hp⟩, q⟩ := h
    refine ⟨_, (pss_cons (ps_if (pt_cmpR op_eq (pe_callB call_len (by rfl) T.m_len (by decide +kernel) (pa_cons (pv 0) pa_nil)) pe_int (nomark _)) (pss_one (ps_ret pe_int))
      pss_nil)
    (pss_one (ps_ret (pe_op op_mod (pe_callTy call_int1 (by rfl) T.m_int (by decide +kernel) (pa_cons (pe_bm PySem.F.plainAttrs_list PySem.F.slot_list_pop PySem.F.type_list_pop mt_popAt (pv 0) (pa_cons pe_int pa_nil)) pa_nil)) (pv 1))))), ?_⟩
    refine ⟨.ref p, rfl, .ref p, _, rfl, .inl ⟨_, SqL.of hp, rfl⟩, rfl, _, rfl, ite_split (fun e => ?_) (fun e => ?_)⟩
    · exact q 0 H (Int.le_refl _) hb (But.refl ⟨ns, hp⟩)
    · obtain ⟨n, r, rfl⟩ : ∃ n r, ns = n :: r := by
        cases ns with
        | nil => exact absurd rfl e
        | cons n r => exact ⟨n, r, rfl⟩
      refine ⟨.ref p, rfl, .inl ⟨rfl, _, SqL.of hp⟩, p, _, 0, 0, .int n, rfl, rfl, hp, by decide, by decide, ?_, rfl, ?_⟩
      · rw [List.length_map, List.length_cons]
        unfold seqIndex?
        simp <;> omega
      · refine .inl ⟨n, rfl, .int b, rfl, n, b, rfl, rfl, hb, ?_⟩
        exact q (n % b) _ (Int.emod_nonneg _ (by omega)) (Int.emod_lt_of_pos _ hb) ⟨fun c o hc e => (upd_ne hc).trans e, r, upd_same⟩

/-! ### _law_mixed -/
abbrev s_law_mixed : Stmt := topS 21
theorem sc_law_mixed : FnScope ["_law_cell", "_law_k", "_law_number"] ["_law_cell", "_law_k"] (defScope s_law_mixed) := ⟨rfl, rfl, rfl, by decide +kernel, rfl, by decide +kernel, by decide +kernel⟩
def spMixed : Sp := fun vs H Q _ => ∃ (a b : Int), vs = [.int a, .int b] ∧ 0 ≤ b ∧ b ≤ 1000 ∧ ∀ (r : Int), Q (.int r) H
theorem ok_mixed {f : Addr} {fd : FuncData} {k : Nat} (T : Txt mg t1 t2 t3 t4 t5) (F : Fun K "_law_mixed" "_law_mixed" s_law_mixed f fd) : FnOk P w K mg base CX0 (k + 1) f fd ["_law_cell", "_law_k"] spMixed := by
  refine F.ok sc_law_mixed (fun vs H Q E h => ?_) (fun cdv A outer s H vs Q E hr h => ?_)
  · obtain ⟨a, b, rfl, _⟩ := h
    rfl
  · obtain ⟨a, b, rfl, h0, h1, q⟩ := h
    refine ⟨_, (pss_cons (ps_set (i := 2) sc_law_mixed.nd rfl (.inl rfl) (pe_op op_mod (pe_callTy call_int1 (by rfl) T.m_int (by decide +kernel) (pa_cons (pe_op op_add (pe_op op_add (pe_op op_mul (pv 0) pe_int) (pe_op op_mul (pv 1) pe_int)) pe_int) pa_nil)) pe_int))
    (pss_cons (ps_set (i := 2) sc_law_mixed.nd rfl (.inl rfl) (pe_op op_mod (pe_callTy call_int1 (by rfl) T.m_int (by decide +kernel) (pa_cons (pe_op op_add (pe_op op_add (pe_op op_mul (pv 2) (pv 2)) (pe_op op_mul pe_int (pv 1))) pe_int) pa_nil)) pe_int))
    (pss_cons (ps_set (i := 2) sc_law_mixed.nd rfl (.inl rfl) (pe_op op_mod (pe_callTy call_int1 (by rfl) T.m_int (by decide +kernel) (pa_cons (pe_op op_add (pe_op op_add (pe_op op_mul (pv 2) (pv 2)) (pe_op op_mul pe_int (pv 1))) (pv 0)) pa_nil)) pe_int))
    (pss_one (ps_ret (pe_op op_mod (pe_op op_fdiv (pv 2) pe_int) pe_int)))))), ?_⟩
    refine ⟨_, rfl, _, _, rfl, rfl, .inr ⟨by decide, by decide⟩, _, rfl, _, _, rfl, rfl, .inr ⟨by decide, by decide⟩, _, _, rfl, rfl, _, _, rfl, rfl, .inl ⟨_, rfl, _, _, rfl, rfl, (by decide : (0 : Int) < 2147483647), ?_⟩⟩
    have l1 := Int.emod_nonneg (a * 48271 + b * 69621 + 12345) (by decide : (2147483647 : Int) ≠ 0)
    have l2 := Int.emod_lt_of_pos (a * 48271 + b * 69621 + 12345) (by decide : (0 : Int) < 2147483647)
    generalize (a * 48271 + b * 69621 + 12345) % 2147483647 = x at l1 l2 ⊢
    refine ⟨_, rfl, _, rfl, _, _, rfl, rfl, .inl ⟨by omega, by omega⟩, _, rfl, _, _, rfl, rfl, .inl ⟨by decide, by decide⟩, _, _, rfl, rfl, _, _, rfl, rfl, .inl ⟨_, rfl, _, _, rfl, rfl, (by decide : (0 : Int) < 998244353), ?_⟩⟩
    have k1 := Int.emod_nonneg (x * x + 16807 * b + 7) (by decide : (998244353 : Int) ≠ 0)
    have k2 := Int.emod_lt_of_pos (x * x + 16807 * b + 7) (by decide : (0 : Int) < 998244353)
    generalize (x * x + 16807 * b + 7) % 998244353 = y at k1 k2 ⊢
    refine ⟨_, rfl, _, rfl, _, _, rfl, rfl, .inl ⟨by omega, by omega⟩, _, rfl, _, _, rfl, rfl, .inl ⟨by decide, by decide⟩, _, _, rfl, rfl, _, rfl, _, _, rfl, rfl, .inl ⟨_, rfl, _, _, rfl, rfl, (by decide : (0 : Int) < 2147483629), ?_⟩⟩
    exact ⟨_, rfl, _, _, rfl, rfl, ⟨by decide, by decide⟩, _, _, rfl, rfl, (by decide : (0 : Int) < 1000), q _⟩

/-! ### _law_letter -/
abbrev s_law_letter : Stmt := topS 24
theorem sc_law_letter : FnScope ["_law_stream_here"] ["_law_stream_here"] (defScope s_law_letter) := ⟨rfl, rfl, rfl, by decide +kernel, rfl, by decide +kernel, by decide +kernel⟩
/-- some text of one sign -/
def spLetter : Sp := fun vs H Q _ => ∃ (p : Addr), vs = [.ref p] ∧ Strm H p ∧ ∀ (c : Nat) H', But p H H' → Q (.str ⟨#[c]⟩) H'
theorem at26 {r : Int} (h0 : 0 ≤ r) (h1 : r < 26) : ∃ c, atI (Str.ofString "abcdefghijklmnopqrstuvwxyz").cps.toList r = some c := by
  have hl : (Str.ofString "abcdefghijklmnopqrstuvwxyz").cps.toList.length = 26 := by decide +kernel
  have hr : r.toNat < (Str.ofString "abcdefghijklmnopqrstuvwxyz").cps.toList.length := by omega
  have e : r = ((r.toNat : Nat) : Int) := by omega
  rw [e]
  exact ⟨_, atI_nat (List.getElem?_eq_getElem hr)⟩
theorem ok_letter {f : Addr} {fd : FuncData} {k : Nat} (T : Txt mg t1 t2 t3 t4 t5) (F : Fun K "_law_letter" "_law_letter" s_law_letter f fd) (C_law_take : Cal P w K mg base CX0 1 "_law_take" ["_law_stream_here", "_law_bound"] spTake) : FnOk P w K mg base CX0 2 f fd ["_law_stream_here"] spLetter := by
  refine F.ok sc_law_letter (fun vs H Q E h => ?_) (fun cdv A outer s H vs Q E hr h => ?_)
  · obtain ⟨p, rfl, _⟩ := h
    rfl
  · obtain ⟨p, rfl, hp, q⟩ := h
    refine ⟨_, (pss_one (ps_ret (pe_ix ix_str pe_str (pe_cal C_law_take (hr.mono (by decide)) (by rfl) pass0 (pa_cons (pv 0) (pa_cons pe_int pa_nil))) (fun _ _ => rfl)))), ?_⟩
    refine ⟨_, rfl, p, 26, rfl, by decide, hp, fun r H1 h0 h1 b1 => ?_⟩
    obtain ⟨c, hc⟩ := at26 h0 h1
    exact ⟨_, r, c, rfl, rfl, by decide, hc, q c H1 b1⟩

/-! ### _law_id -/
abbrev s_law_id : Stmt := topS 26
theorem sc_law_id : FnScope ["_law_stream_here", "_law_number"] ["_law_stream_here"] (defScope s_law_id) := ⟨rfl, rfl, rfl, by decide +kernel, rfl, by decide +kernel, by decide +kernel⟩
def spId : Sp := fun vs H Q _ => ∃ (p : Addr), vs = [.ref p] ∧ Strm H p ∧ ∀ (i : Int) H', i.natAbs < 2 ^ 128 → But p H H' → Q (.int i) H'
theorem ok_id {f : Addr} {fd : FuncData} {k : Nat} (T : Txt mg t1 t2 t3 t4 t5) (F : Fun K "_law_id" "_law_id" s_law_id f fd) (C_law_take : Cal P w K mg base CX0 1 "_law_take" ["_law_stream_here", "_law_bound"] spTake) : FnOk P w K mg base CX0 2 f fd ["_law_stream_here"] spId := by
  refine F.ok sc_law_id (fun vs H Q E h => ?_) (fun cdv A outer s H vs Q E hr h => ?_)
  · obtain ⟨p, rfl, _⟩ := h
    rfl
  · obtain ⟨p, rfl, hp, q⟩ := h
    refine ⟨_, (pss_cons (ps_if (pt_cmpR op_gt (pe_cal C_law_take (hr.mono (by decide)) (by rfl) pass0 (pa_cons (pv 0) (pa_cons pe_int pa_nil))) pe_int (nomark _)) (pss_one (ps_ret (pe_op op_sub (pe_cal C_law_take (hr.mono (by decide)) (by rfl) pass0 (pa_cons (pv 0) (pa_cons pe_int pa_nil))) pe_int)))
      pss_nil)
    (pss_cons (ps_set (i := 1) sc_law_id.nd rfl (.inl rfl) (pe_op op_mul (pe_op op_add (pe_cal C_law_take (hr.mono (by decide)) (by rfl) pass0 (pa_cons (pv 0) (pa_cons pe_int pa_nil))) pe_int) (pe_ix ix_list (pe_lst (pa_cons pe_int (pa_cons pe_int (pa_cons pe_int (pa_cons (pe_op op_pow pe_int pe_int) pa_nil))))) (pe_cal C_law_take (hr.mono (by decide)) (by rfl) pass0 (pa_cons (pv 0) (pa_cons pe_int pa_nil))) (fun _ _ => rfl))))
    (pss_cons (ps_if (pt_cmpR op_eq (pe_cal C_law_take (hr.mono (by decide)) (by rfl) pass0 (pa_cons (pv 0) (pa_cons pe_int pa_nil))) pe_int (nomark _)) (pss_one (ps_ret (pe_un un_neg (pv 1))))
      pss_nil)
    (pss_one (ps_ret (pv 1)))))), ?_⟩
    refine ⟨_, rfl, p, 4, rfl, by decide, hp, fun r1 H1 l1 u1 b1 => ⟨_, _, rfl, rfl, _, rfl, ite_split (fun e => ?_) (fun e => ?_)⟩⟩
    · exact ⟨_, rfl, p, 9, rfl, by decide, b1.2, fun r2 H2 l2 u2 b2 => ⟨_, _, rfl, rfl, q _ H2 (by omega) (b1.trans b2)⟩⟩
    · refine ⟨_, rfl, p, 999, rfl, by decide, b1.2, fun r2 H2 l2 u2 b2 => ⟨_, _, rfl, rfl, ?_⟩⟩
      refine ⟨_, _, rfl, rfl, ⟨by decide, by decide, by decide⟩, by show 4 ≤ sizeLine; decide, fun l nl => ?_⟩
      have b3 := (b1.trans b2).new (o := .lst [.int 1, .int 1000, .int 1000000000000, .int (10 ^ (27 : Int).toNat)]) nl
      refine ⟨_, rfl, p, 4, rfl, by decide, b3.2, fun r3 H3 l3 u3 b4 => ?_⟩
      have hl : H3 l = some (.lst [.int 1, .int 1000, .int 1000000000000, .int (10 ^ (27 : Int).toNat)]) := b4.1 l _ (((b1.trans b2).2.ne nl).symm) upd_same
      obtain ⟨m, hm, hb⟩ : ∃ m : Int, atI [V.int 1, .int 1000, .int 1000000000000, .int (10 ^ (27 : Int).toNat)] r3 = some (.int m) ∧ m.natAbs < 2 ^ 100 := by
        have c : r3 = 0 ∨ r3 = 1 ∨ r3 = 2 ∨ r3 = 3 := by omega
        rcases c with rfl | rfl | rfl | rfl
        · exact ⟨1, rfl, by decide⟩
        · exact ⟨1000, rfl, by decide⟩
        · exact ⟨1000000000000, rfl, by decide⟩
        · exact ⟨10 ^ (27 : Int).toNat, rfl, by decide⟩
      refine ⟨l, _, r3, .int m, rfl, rfl, SqL.of hl, hm, r2 + 1, m, rfl, rfl, .inl ⟨by omega, by omega⟩, ?_⟩
      have hn : ((r2 + 1) * m).natAbs < 2 ^ 128 := by
        rw [Int.natAbs_mul]
        have e1 : (r2 + 1).natAbs ≤ 999 := by omega
        have e2 := Nat.mul_le_mul e1 (Nat.le_of_lt hb)
        have e3 : (999 : Nat) * 2 ^ 100 < 2 ^ 128 := by decide
        omega
      have b5 := b3.trans b4
      refine ⟨_, rfl, p, 2, rfl, by decide, b5.2, fun r4 H4 l4 u4 b6 => ⟨rfl, _, rfl, ite_split (fun e => ?_) (fun e => ?_)⟩⟩
      · exact ⟨_, rfl, _, rfl, q _ H4 (by rw [Int.natAbs_neg]; exact hn) (b5.trans b6)⟩
      · exact ⟨_, rfl, q _ H4 hn (b5.trans b6)⟩
end
end TK

/-! TG2: _law_text, _law_value, _law_names, _law_kinds. -/
namespace TK
open PySem PySem.Spec PyProof.Rows L2
section
variable {P : Program} {w : World} {K : PySem.W.Frag} {mg : Str → Option Value} {base : Heap} {t1 t2 t3 t4 t5 : Tok}

/-! ### _law_text -/
abbrev s_law_text : Stmt := topS 25
theorem sc_law_text : FnScope ["_law_stream_here", "_law_size", "_law_letter_here", "_law_k"] ["_law_stream_here"] (defScope s_law_text) := ⟨rfl, rfl, rfl, by decide +kernel, rfl, by decide +kernel, by decide +kernel⟩
/-- some text of at most 40 signs -/
def spText : Sp := fun vs H Q _ => ∃ (p : Addr), vs = [.ref p] ∧ Strm H p ∧ ∀ (t : Str) H', t.length ≤ 40 → But p H H' → Q (.str t) H'
theorem join0_len {B : Nat} {ys : List Str} {n : Nat} (hl : ys.length ≤ n) (h : ∀ y ∈ ys, y.length ≤ B) : (Txt.join Str.empty ys).length ≤ n * B := by
  refine Nat.le_trans (join_len _ _) ?_
  have e := sum_le B ys h
  have e2 : ys.length * B ≤ n * B := Nat.mul_le_mul_right B hl
  show _ + ys.length * 0 ≤ _
  omega
theorem ok_text {f : Addr} {fd : FuncData} (T : Txt mg t1 t2 t3 t4 t5) (F : Fun K "_law_text" "_law_text" s_law_text f fd) (C_law_take : Cal P w K mg base CX0 1 "_law_take" ["_law_stream_here", "_law_bound"] spTake)
    (C_law_letter : Cal P w K mg base CX0 2 "_law_letter" ["_law_stream_here"] spLetter) : FnOk P w K mg base CX0 3 f fd ["_law_stream_here"] spText := by
  refine F.ok sc_law_text (fun vs H Q E h => ?_) (fun cdv A outer s H vs Q E hr h => ?_)
  · obtain ⟨p, rfl, _⟩ := h
    rfl
  · obtain ⟨p, rfl, hp, q⟩ := h
    refine ⟨_, (pss_cons (ps_set (i := 1) sc_law_text.nd rfl (.inl rfl) (pe_cal C_law_take (hr.mono (by decide)) (by rfl) pass0 (pa_cons (pv 0) (pa_cons pe_int pa_nil))))
    (pss_consM (ps_if (pt_cmpR op_eq (pe_cal C_law_take (hr.mono (by decide)) (by rfl) pass0 (pa_cons (pv 0) (pa_cons pe_int pa_nil))) pe_int (nomark _)) (pss_one (ps_set (i := 1) sc_law_text.nd rfl (.inl rfl) (pe_op op_add (pv 1) pe_int)))
      pss_nil)
    (pss_cons (ps_if (pt_cmpR op_eq (pe_cal C_law_take (hr.mono (by decide)) (by rfl) pass0 (pa_cons (pv 0) (pa_cons pe_int pa_nil))) pe_int (nomark _)) (pss_cons (ps_set (i := 2) sc_law_text.nd rfl (.inr rfl) (pe_cal C_law_letter (hr.mono (by decide)) (by rfl) pass0 (pa_cons (pv 0) pa_nil)))
    (pss_one (ps_ret (pe_join pe_str (pe_lc (own := [("_law_k", 3)]) (g := gName 3) (by rfl) sc_law_text.nd (pi_range1 (by rfl) T.m_range (pa_cons (pv 1) pa_nil)) (blkOk_by (own := [("_law_k", 3)]) (N := ["_law_stream_here", "_law_size", "_law_letter_here", "_law_k"]) (sc := defScope s_law_text) (by decide +kernel))
      (fun _ _ _ _ _ => pg_name (i := 3) sc_law_text.nd rfl (.inl rfl)) (fun _ _ _ _ _ => pts_nil)
      (fun _ _ _ _ _ => (pv 2)))))))
      pss_nil)
    (pss_one (ps_ret (pe_join pe_str (pe_lc (own := [("_law_k", 3)]) (g := gName 3) (by rfl) sc_law_text.nd (pi_range1 (by rfl) T.m_range (pa_cons (pv 1) pa_nil)) (blkOk_by (own := [("_law_k", 3)]) (N := ["_law_stream_here", "_law_size", "_law_letter_here", "_law_k"]) (sc := defScope s_law_text) (by decide +kernel))
      (fun _ _ _ _ _ => pg_name (i := 3) sc_law_text.nd rfl (.inl rfl)) (fun _ _ _ _ _ => pts_nil)
      (fun _ _ _ _ _ => (pe_cal C_law_letter (hr.mono (by decide)) (by rfl) pass0 (pa_cons (pv 0) pa_nil)))))))))), ?_⟩
    refine ⟨_, rfl, p, 6, rfl, by decide, hp, fun r1 H1 l1 u1 b1 => ?_⟩
    refine ⟨fun σ' H' => ∃ n : Int, σ' = [some (.ref p), some (.int n), none, none] ∧ 0 ≤ n ∧ n ≤ 40 ∧ But p H H', ?_, ?_⟩
    · refine ⟨_, rfl, p, 12, rfl, by decide, b1.2, fun r2 H2 l2 u2 b2 => ⟨rfl, _, rfl, ite_split (fun e => ?_) (fun e => ?_)⟩⟩
      · exact ⟨_, rfl, _, _, rfl, rfl, _, rfl, by omega, by omega, b1.trans b2⟩
      · exact ⟨_, rfl, by omega, by omega, b1.trans b2⟩
    · rintro σ' H2 ⟨n, rfl, n0, n1, b2⟩
      refine ⟨_, rfl, p, 3, rfl, by decide, b2.2, fun r3 H3 l3 u3 b3 => ⟨rfl, _, rfl, ite_split (fun e => ?_) (fun e => ?_)⟩⟩
      · refine ⟨_, rfl, p, rfl, b3.2, fun c H4 b4 => ?_⟩
        have b5 := (b2.trans b3).trans b4
        refine ⟨⟨_, rfl⟩, _, rfl, n, rfl, by omega, by omega, fun D hD => lcS_range (Pd := StrLe 1) hD b5.2 (by omega) (fun i H Q2 hi b k => ⟨_, rfl, k _ H ⟨_, rfl, Nat.le_refl 1⟩ (But.refl b.2)⟩) fun xs H6 hl hx b6 hd => ?_⟩
        obtain ⟨ys, rfl, hy⟩ := strs_of hx
        rw [List.length_map] at hl
        refine ⟨Str.empty, D, ys, rfl, rfl, .inl (SqL.of hd), ?_, q _ H6 ?_ (b5.trans b6)⟩
        · have := sum_le 1 ys hy
          show _ + _ * 0 ≤ _
          omega
        · have := join0_len (n := 40) (by omega) hy
          omega
      · have b5 := b2.trans b3
        refine ⟨⟨_, rfl⟩, _, rfl, n, rfl, by omega, by omega, fun D hD => lcS_range (Pd := StrLe 1) hD b5.2 (by omega) (fun i H Q2 hi b k => ⟨_, rfl, p, rfl, b.2, fun c H' b' => k _ H' ⟨_, rfl, Nat.le_refl 1⟩ b'⟩) fun xs H6 hl hx b6 hd => ?_⟩
        obtain ⟨ys, rfl, hy⟩ := strs_of hx
        rw [List.length_map] at hl
        refine ⟨Str.empty, D, ys, rfl, rfl, .inl (SqL.of hd), ?_, q _ H6 ?_ (b5.trans b6)⟩
        · have := sum_le 1 ys hy
          show _ + _ * 0 ≤ _
          omega
        · have := join0_len (n := 40) (by omega) hy
          omega

/-! ### _law_value -/
abbrev s_law_value : Stmt := topS 27
theorem sc_law_value : FnScope ["_law_stream_here"] ["_law_stream_here"] (defScope s_law_value) := ⟨rfl, rfl, rfl, by decide +kernel, rfl, by decide +kernel, by decide +kernel⟩
/-- a short text, or an int of moderate size -/
def VOk : V → Prop := fun v => (∃ t : Str, v = .str t ∧ t.length ≤ 40) ∨ ∃ i : Int, v = .int i ∧ i.natAbs < 2 ^ 128
def spValue : Sp := fun vs H Q _ => ∃ (p : Addr), vs = [.ref p] ∧ Strm H p ∧ ∀ (v : V) H', VOk v → But p H H' → Q v H'
theorem ok_value {f : Addr} {fd : FuncData} (T : Txt mg t1 t2 t3 t4 t5) (F : Fun K "_law_value" "_law_value" s_law_value f fd) (C_law_take : Cal P w K mg base CX0 1 "_law_take" ["_law_stream_here", "_law_bound"] spTake)
    (C_law_text : Cal P w K mg base CX0 3 "_law_text" ["_law_stream_here"] spText) (C_law_id : Cal P w K mg base CX0 2 "_law_id" ["_law_stream_here"] spId) : FnOk P w K mg base CX0 4 f fd ["_law_stream_here"] spValue := by
  refine F.ok sc_law_value (fun vs H Q E h => ?_) (fun cdv A outer s H vs Q E hr h => ?_)
  · obtain ⟨p, rfl, _⟩ := h
    rfl
  · obtain ⟨p, rfl, hp, q⟩ := h
    refine ⟨_, (pss_cons (ps_if (pt_cmpR op_eq (pe_cal C_law_take (hr.mono (by decide)) (by rfl) pass0 (pa_cons (pv 0) (pa_cons pe_int pa_nil))) pe_int (nomark _)) (pss_one (ps_ret (pe_cal C_law_text (hr.mono (by decide)) (by rfl) pass0 (pa_cons (pv 0) pa_nil))))
      pss_nil)
    (pss_one (ps_ret (pe_cal C_law_id (hr.mono (by decide)) (by rfl) pass0 (pa_cons (pv 0) pa_nil))))), ?_⟩
    refine ⟨_, rfl, p, 2, rfl, by decide, hp, fun r1 H1 l1 u1 b1 => ⟨rfl, _, rfl, ite_split (fun e => ?_) (fun e => ?_)⟩⟩
    · exact ⟨_, rfl, p, rfl, b1.2, fun t H2 ht b2 => q _ H2 (.inl ⟨t, rfl, ht⟩) (b1.trans b2)⟩
    · exact ⟨_, rfl, p, rfl, b1.2, fun i H2 ht b2 => q _ H2 (.inr ⟨i, rfl, ht⟩) (b1.trans b2)⟩

/-! ### _law_names -/
abbrev s_law_names : Stmt := topS 28
theorem sc_law_names : FnScope ["_law_stream_here", "_law_count", "_law_head", "_law_k", "_law_start", "_law_names_here", "_law_letter_here", "_law_tail", "_law_name", "_law_j"] ["_law_stream_here", "_law_count"] (defScope s_law_names) := ⟨rfl, rfl, rfl, by decide +kernel, rfl, by decide +kernel, by decide +kernel⟩
/-- a new list of so many texts of at most 20 signs -/
def spNames : Sp := fun vs H Q _ => ∃ (p : Addr) (n : Int), vs = [.ref p, .int n] ∧ 0 ≤ n ∧ n ≤ 10 ∧ Strm H p ∧
  ∀ (l : Addr) (xs : List V) H', H l = none → (xs.length : Int) = n → (∀ x ∈ xs, StrLe 20 x) → But p H H' → H' l = some (.lst xs) → Q (.ref l) H'
theorem ok_names {f : Addr} {fd : FuncData} (T : Txt mg t1 t2 t3 t4 t5) (F : Fun K "_law_names" "_law_names" s_law_names f fd) (C_law_take : Cal P w K mg base CX0 1 "_law_take" ["_law_stream_here", "_law_bound"] spTake) :
    FnOk P w K mg base CX0 2 f fd ["_law_stream_here", "_law_count"] spNames := by
  refine F.ok sc_law_names (fun vs H Q E h => ?_) (fun cdv A outer s H vs Q E hr h => ?_)
  · obtain ⟨p, n, rfl, _⟩ := h
    rfl
  · obtain ⟨p, n, rfl, n0, n1, hp, q⟩ := h
    refine ⟨_, (pss_cons (ps_set (i := 2) sc_law_names.nd rfl (.inl rfl) (pe_join pe_str (pe_lc (own := [("_law_k", 3)]) (g := gName 3) (by rfl) sc_law_names.nd (pi_range1 (by rfl) T.m_range (pa_cons (pe_cal C_law_take (hr.mono (by decide)) (by rfl) pass0 (pa_cons (pv 0) (pa_cons pe_int pa_nil))) pa_nil)) (blkOk_by (own := [("_law_k", 3)]) (N := ["_law_stream_here", "_law_count", "_law_head", "_law_k", "_law_start", "_law_names_here", "_law_letter_here", "_law_tail", "_law_name", "_law_j"]) (sc := defScope s_law_names) (by decide +kernel))
      (fun _ _ _ _ _ => pg_name (i := 3) sc_law_names.nd rfl (.inl rfl)) (fun _ _ _ _ _ => pts_nil)
      (fun _ _ _ _ _ => (pe_ix ix_str pe_str (pe_cal C_law_take (hr.mono (by decide)) (by rfl) pass0 (pa_cons (pv 0) (pa_cons pe_int pa_nil))) (fun _ _ => rfl))))))
    (pss_cons (ps_set (i := 4) sc_law_names.nd rfl (.inl rfl) (pe_cal C_law_take (hr.mono (by decide)) (by rfl) pass0 (pa_cons (pv 0) (pa_cons pe_int pa_nil))))
    (pss_cons (ps_set (i := 5) sc_law_names.nd rfl (.inl rfl) (pe_lst pa_nil))
    (pss_cons (ps_for PassesOwn.never rfl (pi_range1 (by rfl) T.m_range (pa_cons (pv 1) pa_nil)) (pg_name (i := 3) sc_law_names.nd rfl (.inl rfl))
      (pss_cons (ps_set (i := 6) sc_law_names.nd rfl (.inl rfl) (pe_ix ix_str pe_str (pe_op op_mod (pe_op op_add (pv 4) (pe_op op_mul pe_int (pv 3))) pe_int) (fun _ _ => rfl)))
    (pss_cons (ps_set (i := 7) sc_law_names.nd rfl (.inl rfl) (pe_join pe_str (pe_lc (own := [("_law_j", 9)]) (g := gName 9) (by rfl) sc_law_names.nd (pi_range1 (by rfl) T.m_range (pa_cons (pe_cal C_law_take (hr.mono (by decide)) (by rfl) pass0 (pa_cons (pv 0) (pa_cons pe_int pa_nil))) pa_nil)) (blkOk_by (own := [("_law_j", 9)]) (N := ["_law_stream_here", "_law_count", "_law_head", "_law_k", "_law_start", "_law_names_here", "_law_letter_here", "_law_tail", "_law_name", "_law_j"]) (sc := defScope s_law_names) (by decide +kernel))
      (fun _ _ _ _ _ => pg_name (i := 9) sc_law_names.nd rfl (.inl rfl)) (fun _ _ _ _ _ => pts_nil)
      (fun _ _ _ _ _ => (pe_ix ix_str pe_str (pe_cal C_law_take (hr.mono (by decide)) (by rfl) pass0 (pa_cons (pv 0) (pa_cons pe_int pa_nil))) (fun _ _ => rfl))))))
    (pss_cons (ps_set (i := 8) sc_law_names.nd rfl (.inl rfl) (pe_op op_add_str (pe_op op_add_str (pv 2) (pv 6)) (pv 7)))
    (pss_consM (ps_if (pw_or (pt_cmpR op_eq (pv 8) pe_str (nomark _)) (pw_or1 (pt_cmpR op_eq (pv 8) pe_str (nomark _)))).pt (pss_one (ps_set (i := 8) sc_law_names.nd rfl (.inl rfl) (pe_op op_add_str (pv 8) pe_str)))
      pss_nil)
    (pss_one (ps_expr (pe_bm PySem.F.plainAttrs_list PySem.F.slot_list_append PySem.F.type_list_append mt_append (pv 5) (pa_cons (pv 8) pa_nil)))))))))
    (pss_one (ps_ret (pv 5))))))), ?_⟩
    -- _law_head
    refine ⟨⟨_, rfl⟩, _, rfl, p, 5, rfl, by decide, hp, fun r1 H1 l1 u1 b1 => ⟨r1, rfl, by omega, by omega, fun D hD => lcS_range (Pd := StrLe 1) hD b1.2 (by omega) (fun i H Q2 hi b k => ?_) fun xs H2 hl hx b2 hd => ?_⟩⟩
    · refine ⟨_, rfl, p, 26, rfl, by decide, b.2, fun r3 H3 l3 u3 b3 => ?_⟩
      obtain ⟨c, hc⟩ := at26 l3 u3
      exact ⟨_, r3, c, rfl, rfl, by decide, hc, k _ H3 ⟨_, rfl, Nat.le_refl 1⟩ b3⟩
    obtain ⟨ys, rfl, hy⟩ := strs_of hx
    rw [List.length_map] at hl
    refine ⟨Str.empty, D, ys, rfl, rfl, .inl (SqL.of hd), ?_, ?_⟩
    · have := sum_le 1 ys hy
      show _ + _ * 0 ≤ _
      omega
    have lh : (Txt.join Str.empty ys).length ≤ 5 := by
      have := join0_len (n := 5) (by omega) hy
      omega
    generalize Txt.join Str.empty ys = head at lh ⊢
    have b3 := b1.trans b2
    -- _law_start, _law_names_here
    refine ⟨_, rfl, p, 26, rfl, by decide, b3.2, fun r4 H4 l4 u4 b4 => ⟨Nat.zero_le _, fun L nL => ?_⟩⟩
    have b5 := b3.trans b4
    have neL : L ≠ p := (b5.2.ne nL).symm
    have hLn : H L = none := b5.none hp nL
    refine ⟨.int n, rfl, n, rfl, by omega, by omega, for_range (lo := 0) (n := n.toNat) (fun i σ' H' => ∃ y3 y6 y7 y8, σ' = [some (.ref p), some (.int n), some (.str head), y3, some (.int r4), some (.ref L), y6, y7, y8, none] ∧ But p H H' ∧ ∃ xs : List V, xs.length = i ∧ (∀ x ∈ xs, StrLe 20 x) ∧ H' L = some (.lst xs))
      ⟨_, _, _, _, rfl, b5.new nL, [], rfl, (fun x hx => by cases hx), upd_same⟩ (fun i σ' H6 hi hP => ?_) fun σ' H6 hP => ?_⟩
    · obtain ⟨y3, y6, y7, y8, rfl, b6, xs, hl6, hx6, hd6⟩ := hP
      have m0 := Int.emod_nonneg (r4 + 3 * (0 + (i : Int))) (by decide : (26 : Int) ≠ 0)
      have m1 := Int.emod_lt_of_pos (r4 + 3 * (0 + (i : Int))) (by decide : (0 : Int) < 26)
      obtain ⟨c, hc⟩ := at26 m0 m1
      refine ⟨_, rfl, _, rfl, _, _, rfl, rfl, .inl ⟨by decide, by decide⟩, _, _, rfl, rfl, _, _, rfl, rfl, (by decide : (0 : Int) < 26), _, _, c, rfl, rfl, by decide, hc, ?_⟩
      refine ⟨⟨_, rfl⟩, _, rfl, p, 8, rfl, by decide, b6.2, fun r7 H7 l7 u7 b7 => ⟨r7, rfl, by omega, by omega, fun D2 hD2 => lcS_range (Pd := StrLe 1) hD2 b7.2 (by omega) (fun i H Q2 hi b k => ?_) fun xs2 H8 hl2 hx2 b8 hd2 => ?_⟩⟩
      · refine ⟨_, rfl, p, 26, rfl, by decide, b.2, fun r9 H9 l9 u9 b9 => ?_⟩
        obtain ⟨c2, hc2⟩ := at26 l9 u9
        exact ⟨_, r9, c2, rfl, rfl, by decide, hc2, k _ H9 ⟨_, rfl, Nat.le_refl 1⟩ b9⟩
      obtain ⟨ys2, rfl, hy2⟩ := strs_of hx2
      rw [List.length_map] at hl2
      refine ⟨Str.empty, D2, ys2, rfl, rfl, .inl (SqL.of hd2), ?_, ?_⟩
      · have := sum_le 1 ys2 hy2
        show _ + _ * 0 ≤ _
        omega
      have lt : (Txt.join Str.empty ys2).length ≤ 8 := by
        have := join0_len (n := 8) (by omega) hy2
        omega
      generalize Txt.join Str.empty ys2 = tail at lt ⊢
      have b8' := (b6.trans b7).trans b8
      have hd8 : H8 L = some (.lst xs) := b8.1 L _ neL (b7.1 L _ neL hd6)
      have la : (head ++ (⟨#[c]⟩ : Str)).length = head.length + 1 := by
        rw [TL.len_tl, TL.tl_append, List.length_append, ← TL.len_tl]
        rfl
      have lb : (head ++ (⟨#[c]⟩ : Str) ++ tail).length = head.length + 1 + tail.length := by
        rw [TL.len_tl, TL.tl_append, List.length_append, ← TL.len_tl, ← TL.len_tl, la]
      have one : (⟨#[c]⟩ : Str).length = 1 := rfl
      refine ⟨_, rfl, _, rfl, head, ⟨#[c]⟩, rfl, rfl, by rw [sizeLine_eq]; omega, _, rfl, _, tail, rfl, rfl, by rw [sizeLine_eq]; omega, ?_⟩
      generalize hnm : head ++ (⟨#[c]⟩ : Str) ++ tail = name at lb ⊢
      refine ⟨fun σ' H' => ∃ nm : Str, nm.length ≤ 20 ∧ σ' = [some (.ref p), some (.int n), some (.str head), some (.int (0 + i)), some (.int r4), some (.ref L), some (.str ⟨#[c]⟩), some (.str tail), some (.str nm), none] ∧ H' = H8, ?_, ?_⟩
      · have lx : (name ++ Str.ofString "x").length = name.length + 1 := by
          rw [TL.len_tl, TL.tl_append, List.length_append, ← TL.len_tl]
          rfl
        have lx1 : (Str.ofString "x").length = 1 := rfl
        have fin : ∃ nm : Str, nm.length ≤ 20 ∧ [some (V.ref p), some (.int n), some (.str head), some (.int (0 + i)), some (.int r4), some (.ref L), some (.str ⟨#[c]⟩), some (.str tail), some (.str (name ++ Str.ofString "x")), none] =
            [some (.ref p), some (.int n), some (.str head), some (.int (0 + i)), some (.int r4), some (.ref L), some (.str ⟨#[c]⟩), some (.str tail), some (.str nm), none] ∧ H8 = H8 := ⟨_, by omega, rfl, rfl⟩
        refine ⟨_, rfl, rfl, _, rfl, ite_split (fun e => ?_) (fun e => ?_)⟩
        · exact iteT ⟨_, rfl, _, _, rfl, rfl, by rw [sizeLine_eq]; omega, fin⟩
        · refine ⟨_, rfl, rfl, _, rfl, ite_split (fun e => ?_) (fun e => ?_)⟩
          · exact ⟨_, rfl, _, _, rfl, rfl, by rw [sizeLine_eq]; omega, fin⟩
          · exact ⟨_, by omega, rfl, rfl⟩
      · rintro σ' H9 ⟨nm, ln, rfl, rfl⟩
        refine ⟨.ref L, rfl, .inl ⟨rfl, _, SqL.of hd8⟩, .str nm, rfl, L, xs, .str nm, rfl, rfl, hd8, by rw [sizeLine_eq]; omega, ?_⟩
        refine ⟨_, _, _, _, rfl, ⟨fun b o hb e => ?_, ?_⟩, xs ++ [.str nm], ?_, fun x hx => ?_, upd_same⟩
        · rw [upd_ne (ne_of_none e hLn)]
          exact b8'.1 b o hb e
        · obtain ⟨ns, e⟩ := b8'.2
          exact ⟨ns, (upd_ne neL.symm).trans e⟩
        · rw [List.length_append, hl6]
          rfl
        · rcases List.mem_append.mp hx with hx | hx
          · exact hx6 x hx
          · rw [List.mem_singleton.mp hx]
            exact ⟨nm, rfl, ln⟩
    · obtain ⟨y3, y6, y7, y8, rfl, b6, xs, hl6, hx6, hd6⟩ := hP
      exact ⟨.ref L, rfl, q L xs H6 hLn (by omega) hx6 b6 hd6⟩
end
end TK

/-! TM: the plain law: texts cut and joined, numbers written and read, what a good value, a good line is. -/
namespace TK
open PySem PySem.Spec PyProof.Rows L2
abbrev tl (x : Str) : List Nat := TL.tl x

/-! ### cut and joined -/
theorem spl1 (s : Nat) (acc : List Nat) (c : Nat) (r : List Nat) : TL.spl [s] 0 acc (c :: r) = if c = s then acc :: TL.spl [s] 0 [] r else TL.spl [s] 0 (acc ++ [c]) r := by
  by_cases h : c = s
  · subst h
    rw [if_pos rfl, TL.spl_hit (by simp [TL.pre])]
    rfl
  · rw [if_neg h, TL.spl_miss (by simp [TL.pre, h])]
theorem spl_ne (s : Nat) : ∀ (l acc : List Nat), TL.spl [s] 0 acc l ≠ []
  | [], acc => by rw [TL.spl_nil]; simp
  | c :: r, acc => by
    rw [spl1]
    split
    · simp
    · exact spl_ne s r _
theorem join_spl (s : Nat) : ∀ (l acc : List Nat), TL.joinL [s] (TL.spl [s] 0 acc l) = acc ++ l
  | [], acc => by rw [TL.spl_nil]; simp [TL.joinL]
  | c :: r, acc => by
    rw [spl1]
    split
    · rename_i h
      subst h
      have ih := join_spl c r []
      cases e : TL.spl [c] 0 [] r with
      | nil => exact absurd e (spl_ne c r [])
      | cons a t =>
        rw [e] at ih
        show acc ++ ([c] ++ TL.joinL [c] (a :: t)) = _
        rw [ih]
        simp
    · rw [join_spl s r (acc ++ [c])]
      simp
theorem spl_sum (s : Nat) : ∀ (l acc : List Nat), ((TL.spl [s] 0 acc l).map List.length).sum ≤ acc.length + l.length ∧ (TL.spl [s] 0 acc l).length ≤ l.length + 1
  | [], acc => by rw [TL.spl_nil]; simp
  | c :: r, acc => by
    rw [spl1]
    split
    · obtain ⟨h1, h2⟩ := spl_sum s r []
      simp only [List.map_cons, List.sum_cons, List.length_cons, List.length_nil] at h1 h2 ⊢
      omega
    · obtain ⟨h1, h2⟩ := spl_sum s r (acc ++ [c])
      simp only [List.length_append, List.length_cons, List.length_nil] at h1 h2 ⊢
      omega
section
variable {y : Str} {s : Nat}
theorem split_tl (ey : tl y = [s]) (hk : y.cps.all (· < 256) = true) (x : Str) : (Txt.split x y).map tl = TL.spl [s] 0 [] (tl x) := by
  have := TL.split_spl x y (by rw [show TL.tl y = [s] from ey]; simp) (TL.kind_ok hk)
  rw [show TL.tl y = [s] from ey] at this
  exact this
theorem split_ne (ey : tl y = [s]) (hk : y.cps.all (· < 256) = true) (x : Str) : Txt.split x y ≠ [] := fun e => by
  have h := split_tl ey hk x
  rw [e] at h
  exact spl_ne s _ _ h.symm
theorem join_split (ey : tl y = [s]) (hk : y.cps.all (· < 256) = true) (x : Str) : Txt.join y (Txt.split x y) = x := by
  refine TL.ext_tl ?_
  rw [TL.join_eq, TL.tl_join, show (Txt.split x y).map TL.tl = _ from split_tl ey hk x, show TL.tl y = [s] from ey, join_spl]
  rfl
theorem split_sum (ey : tl y = [s]) (hk : y.cps.all (· < 256) = true) (x : Str) : ((Txt.split x y).map (·.length)).sum ≤ x.length ∧ (Txt.split x y).length ≤ x.length + 1 := by
  have h := split_tl ey hk x
  obtain ⟨h1, h2⟩ := spl_sum s (tl x) []
  rw [← h] at h1 h2
  rw [List.map_map] at h1
  have e : (List.length ∘ tl) = fun x : Str => x.length := by
    funext z
    exact (TL.len_tl z).symm
  rw [e] at h1
  rw [List.length_map] at h2
  have hl : x.length = (tl x).length := TL.len_tl x
  simp only [List.length_nil] at h1
  omega
theorem le_sum : ∀ {l : List Str} {x : Str}, x ∈ l → x.length ≤ (l.map (·.length)).sum
  | a :: r, x, h => by
    rw [List.map_cons, List.sum_cons]
    rcases List.mem_cons.mp h with e | h
    · rw [e]
      omega
    · have := le_sum h
      omega
theorem split_part (ey : tl y = [s]) (hk : y.cps.all (· < 256) = true) {x p : Str} (h : p ∈ Txt.split x y) : p.length ≤ x.length := Nat.le_trans (le_sum h) (split_sum ey hk x).1
end
def SP1 : Str := " "
def NL1 : Str := "\n"
theorem sp1 : tl SP1 = [32] := by decide +kernel
theorem nl1 : tl NL1 = [10] := by decide +kernel
theorem sp2 : SP1.cps.all (· < 256) = true := by decide +kernel
theorem nl2 : NL1.cps.all (· < 256) = true := by decide +kernel

/-! ### texts by their first sign -/
theorem starts_is {x y : Str} {c : Nat} (ey : tl y = [c]) : Txt.startswith x y = decide ((tl x).head? = some c) := by
  unfold Txt.startswith
  rw [PySem.StrLaws.subAt_eq]
  have hy : y.length = 1 := by
    rw [TL.len_tl, show TL.tl y = [c] from ey]
    rfl
  have hx : x.length = (tl x).length := TL.len_tl x
  show (decide (0 + y.length ≤ x.length) && ((TL.tl x).drop 0).take y.length == TL.tl y) = _
  rw [hy, hx, show TL.tl y = [c] from ey, List.drop_zero]
  cases h : tl x with
  | nil => rw [show TL.tl x = [] from h]; simp
  | cons a r =>
    rw [show TL.tl x = a :: r from h]
    by_cases e : a = c <;> simp [e]
theorem tl_cut (z : Str) (lo hi : Option Int) : tl (cutS z lo hi) = ((tl z).drop (HT.sIx z.length 0 lo)).take (HT.sIx z.length z.length hi - HT.sIx z.length 0 lo) := rfl
theorem tl_from (z : Str) (k : Nat) : tl (cutS z (some (k : Int)) none) = (tl z).drop k := by
  rw [tl_cut, HT.sIx_none, HT.sIx_nat]
  have hz : z.length = (tl z).length := TL.len_tl z
  by_cases h : k ≤ (tl z).length
  · rw [hz, Nat.min_eq_left h]
    refine List.take_of_length_le ?_
    rw [List.length_drop]
    omega
  · rw [hz, Nat.min_eq_right (by omega), List.drop_of_length_le (Nat.le_refl _), List.drop_of_length_le (by omega)]
    simp
theorem tl_to (z : Str) (k : Nat) : tl (cutS z none (some (k : Int))) = (tl z).take k := by
  rw [tl_cut, HT.sIx_none, HT.sIx_nat, List.drop_zero, Nat.sub_zero]
  have hz : z.length = (tl z).length := TL.len_tl z
  by_cases h : k ≤ (tl z).length
  · rw [hz, Nat.min_eq_left h]
  · rw [hz, Nat.min_eq_right (by omega), List.take_of_length_le (Nat.le_refl _), List.take_of_length_le (by omega)]
def cut1 (x : Str) : Str := cutS x (some 1) none
theorem tl_cut1 (x : Str) : tl (cut1 x) = (tl x).drop 1 := tl_from x 1
theorem cut1_len (x : Str) : (cut1 x).length ≤ x.length := cutS_length _ _ _
/-- x[:1] == 'c' -/
theorem first_is {x y : Str} {c : Nat} (ey : tl y = [c]) : decide (V.str (cutS x none (some 1)) = V.str y) = decide ((tl x).head? = some c) := by
  have e : (V.str (cutS x none (some 1)) = V.str y) ↔ (tl x).head? = some c := by
    constructor
    · intro h
      have h1 : tl (cutS x none (some 1)) = tl y := congrArg tl (V.str.inj h)
      rw [show tl (cutS x none (some 1)) = (tl x).take 1 from tl_to x 1, ey] at h1
      cases hx : tl x with
      | nil => rw [hx] at h1; simp at h1
      | cons a r => rw [hx] at h1; simp at h1; simp [h1]
    · intro h
      refine congrArg V.str (TL.ext_tl ?_)
      show tl _ = tl y
      rw [show tl (cutS x none (some 1)) = (tl x).take 1 from tl_to x 1, ey]
      cases hx : tl x with
      | nil => rw [hx] at h; simp at h
      | cons a r => rw [hx] at h; simp at h; simp [h]
  by_cases h : (tl x).head? = some c
  · rw [decide_eq_true h, decide_eq_true (e.mpr h)]
  · rw [decide_eq_false h, decide_eq_false (fun z => h (e.mp z))]

/-! ### numbers -/
def numI (i : Int) : List Nat := if i < 0 then 45 :: TL.numL i.natAbs else TL.numL i.natAbs
theorem tl_toString (i : Int) : tl (Str.ofString (toString i)) = numI i := by
  unfold numI
  cases i with
  | ofNat n =>
    rw [if_neg (show ¬ Int.ofNat n < 0 from Int.not_lt.mpr (Int.natCast_nonneg n))]
    exact TL.tl_num n
  | negSucc n =>
    rw [if_pos (by omega)]
    have h : TL.tl (Str.ofString (toString ((n + 1 : Nat) : Int))) = TL.numL (n + 1) := TL.tl_num (n + 1)
    rw [TL.tl_ofString] at h
    show TL.tl _ = _
    rw [TL.tl_ofString]
    have e : (toString (Int.negSucc n)).toList = '-' :: (toString ((n + 1 : Nat) : Int)).toList := by
      show ("-" ++ toString (n + 1)).toList = '-' :: (toString (n + 1)).toList
      rw [String.toList_append]
      rfl
    rw [e, List.map_cons, h]
    rfl
theorem numI_len {i : Int} (h : i.natAbs < 2 ^ 128) : (numI i).length ≤ 40 := by
  have h2 := TL.numL_len (n := i.natAbs) (k := 39) (by decide) (Nat.lt_of_lt_of_le h (by decide))
  unfold numI
  split
  · rw [List.length_cons]
    omega
  · omega
theorem snoc_ind {motive : List Nat → Prop} (l : List Nat) (h0 : motive []) (h1 : ∀ l c, motive l → motive (l ++ [c])) : motive l := by
  have key : ∀ l : List Nat, motive l.reverse := by
    intro l
    induction l with
    | nil => exact h0
    | cons a r ih =>
      rw [List.reverse_cons]
      exact h1 _ _ ih
  have := key l.reverse
  rwa [List.reverse_reverse] at this
theorem digitsVal_snoc (l : List Nat) (c : Nat) : NumText.digitsVal (l ++ [c]) = NumText.digitsVal l * 10 + (c - 48) := by
  unfold NumText.digitsVal
  rw [List.foldl_append]
  rfl
theorem digitsVal_lt (l : List Nat) : NumText.AllDigits l → NumText.digitsVal l < 10 ^ l.length := by
  refine snoc_ind (motive := fun l => NumText.AllDigits l → NumText.digitsVal l < 10 ^ l.length) l (fun _ => by decide) (fun l c ih h => ?_)
  have h1 := ih fun d hd => h d (List.mem_append_left _ hd)
  have h2 := h c (List.mem_append_right _ (List.mem_singleton.mpr rfl))
  rw [digitsVal_snoc, List.length_append, List.length_singleton, Nat.pow_succ]
  omega
theorem digitsVal_pos : ∀ (l : List Nat), NumText.AllDigits l → l ≠ [] → l.head? ≠ some 48 → 1 ≤ NumText.digitsVal l := by
  intro l
  refine snoc_ind (motive := fun l => NumText.AllDigits l → l ≠ [] → l.head? ≠ some 48 → 1 ≤ NumText.digitsVal l) l (fun _ h => absurd rfl h) (fun l c ih h _ hz => ?_)
  have h2 := h c (List.mem_append_right _ (List.mem_singleton.mpr rfl))
  rw [digitsVal_snoc]
  by_cases e : l = []
  · subst e
    have hc : c ≠ 48 := fun z => hz (by rw [z]; rfl)
    omega
  · have hh : l.head? ≠ some 48 := fun z => hz (by
      cases l with
      | nil => exact absurd rfl e
      | cons a r => simpa using z)
    have := ih (fun d hd => h d (List.mem_append_left _ hd)) e hh
    omega
theorem numL_back : ∀ (l : List Nat), NumText.AllDigits l → l ≠ [] → (l.head? ≠ some 48 ∨ l = [48]) → TL.numL (NumText.digitsVal l) = l := by
  intro l
  refine snoc_ind (motive := fun l => NumText.AllDigits l → l ≠ [] → (l.head? ≠ some 48 ∨ l = [48]) → TL.numL (NumText.digitsVal l) = l) l (fun _ h => absurd rfl h) (fun l c ih h _ hz => ?_)
  have h2 := h c (List.mem_append_right _ (List.mem_singleton.mpr rfl))
  rw [digitsVal_snoc]
  by_cases e : l = []
  · subst e
    rw [TL.numL_lt (by show 0 * 10 + (c - 48) < 10; omega)]
    show [48 + (0 * 10 + (c - 48))] = [c]
    congr 1
    omega
  · have hd : NumText.AllDigits l := fun d hd => h d (List.mem_append_left _ hd)
    have hh : l.head? ≠ some 48 := by
      rcases hz with hz | hz
      · intro z
        refine hz ?_
        cases l with
        | nil => exact absurd rfl e
        | cons a r => simpa using z
      · exfalso
        cases l with
        | nil => exact e rfl
        | cons a r =>
          have := congrArg List.length hz
          simp at this
    have hp := digitsVal_pos l hd e hh
    rw [TL.numL_step (by omega)]
    have e1 : (NumText.digitsVal l * 10 + (c - 48)) / 10 = NumText.digitsVal l := by omega
    have e2 : (NumText.digitsVal l * 10 + (c - 48)) % 10 = c - 48 := by omega
    rw [e1, e2, ih hd e (.inl hh)]
    congr 2
    omega

/-! ### what is good -/
def lets : List Nat := tl LET
def digs : List Nat := tl DIG
theorem mem_digs {c : Nat} : c ∈ digs ↔ 48 ≤ c ∧ c ≤ 57 := by
  have e : digs = [48, 49, 50, 51, 52, 53, 54, 55, 56, 57] := by decide +kernel
  rw [e]
  simp only [List.mem_cons, List.not_mem_nil, or_false]
  omega
def onlyIn (S : List Nat) (x : Str) : Bool := (tl x).all fun c => decide (c ∈ S)
def stripM (x : Str) : Str := if (tl x).head? = some 45 then cut1 x else x
def Z1 : Str := "0"
def goodNum (x : Str) : Bool := decide (1 ≤ (stripM x).length) && decide ((stripM x).length ≤ 30) && onlyIn digs (stripM x) && (decide ((tl (stripM x)).head? ≠ some 48) || decide (x = Z1))
def numOf (x : Str) : Int := if (tl x).head? = some 45 then -((NumText.digitsVal (tl (cut1 x)) : Nat) : Int) else ((NumText.digitsVal (tl x) : Nat) : Int)
theorem only_digs {x : Str} (h : onlyIn digs x = true) : NumText.AllDigits (tl x) := fun c hc => by
  unfold onlyIn at h
  rw [List.all_eq_true] at h
  exact mem_digs.mp (of_decide_eq_true (h c hc))
theorem z1 : tl Z1 = [48] := by decide +kernel
structure GoodNum (x : Str) : Prop where
  l1 : 1 ≤ (stripM x).length
  l2 : (stripM x).length ≤ 30
  dg : NumText.AllDigits (tl (stripM x))
  z : (tl (stripM x)).head? ≠ some 48 ∨ x = Z1
theorem goodNum_of {x : Str} (h : goodNum x = true) : GoodNum x := by
  unfold goodNum at h
  simp only [Bool.and_eq_true, Bool.or_eq_true, decide_eq_true_eq] at h
  exact ⟨h.1.1.1, h.1.1.2, only_digs h.1.2, h.2⟩
theorem GoodNum.ne {x : Str} (g : GoodNum x) : tl (stripM x) ≠ [] := fun e => by
  have h := g.l1
  rw [TL.len_tl, show TL.tl (stripM x) = [] from e] at h
  simp at h
theorem numOf_back {x : Str} (h : goodNum x = true) : Str.ofString (toString (numOf x)) = x := by
  have g := goodNum_of h
  have ne := g.ne
  refine TL.ext_tl ?_
  show tl _ = tl x
  rw [tl_toString]
  by_cases hm : (tl x).head? = some 45
  · have es : stripM x = cut1 x := if_pos hm
    have nz : x ≠ Z1 := fun z => by
      rw [z, z1] at hm
      simp at hm
    have hz : (tl (cut1 x)).head? ≠ some 48 := by
      rw [← es]
      exact g.z.resolve_right nz
    have hd := g.dg
    rw [es] at hd ne
    have hp := digitsVal_pos _ hd ne hz
    have hb := numL_back _ hd ne (.inl hz)
    unfold numOf numI
    rw [if_pos hm, if_pos (by omega), Int.natAbs_neg, Int.natAbs_natCast, hb, tl_cut1]
    cases hx : tl x with
    | nil => rw [hx] at hm; simp at hm
    | cons a r =>
      rw [hx] at hm
      have : a = 45 := by simpa using hm
      rw [this]
      rfl
  · have es : stripM x = x := if_neg hm
    have hd := g.dg
    have hz := g.z
    rw [es] at hd ne hz
    have hb := numL_back _ hd ne (hz.imp id fun z => by rw [z, z1])
    unfold numOf numI
    rw [if_neg hm, if_neg (by omega), Int.natAbs_natCast, hb]
theorem numOf_small {x : Str} (h : goodNum x = true) : (numOf x).natAbs < 2 ^ 128 := by
  have g := goodNum_of h
  have h1 := digitsVal_lt _ g.dg
  have h2 : (tl (stripM x)).length ≤ 30 := by
    have := g.l2
    rwa [TL.len_tl] at this
  have h3 : (10 : Nat) ^ (tl (stripM x)).length ≤ 10 ^ 30 := Nat.pow_le_pow_right (by decide) h2
  have h4 : (10 : Nat) ^ 30 < 2 ^ 128 := by decide
  unfold numOf
  unfold stripM at h1 h3
  by_cases hm : (tl x).head? = some 45
  · rw [if_pos hm] at h1 h3 ⊢
    rw [Int.natAbs_neg, Int.natAbs_natCast]
    omega
  · rw [if_neg hm] at h1 h3 ⊢
    rw [Int.natAbs_natCast]
    omega
theorem log2_small {n : Nat} (h : n < 2 ^ 128) : n.log2 < 1920 := by
  by_cases e : n = 0
  · subst e
    decide
  · exact Nat.lt_of_lt_of_le ((Nat.log2_lt e).mpr h) (by decide)
/-- int(text) of digits -/
theorem int_digs {d : Str} (hd : NumText.AllDigits (tl d)) (h1 : tl d ≠ []) (h2 : d.length ≤ 30) : PySem.intText? d = some ((NumText.digitsVal (tl d) : Nat) : Int) :=
  intText_digits hd h1 (by omega)
def goodId (w : Str) : Bool := decide ((tl w).head? = some 35) && goodNum (cut1 w)
def goodValue (w : Str) : Bool := if (tl w).head? = some 61 then onlyIn lets (cut1 w) else goodId w
def valOf (w : Str) : V := if (tl w).head? = some 35 then .int (numOf (cut1 w)) else .str (cut1 w)
def EQ1 : Str := "="
def HS1 : Str := "#"
theorem eq1 : tl EQ1 = [61] := by decide +kernel
theorem hs1 : tl HS1 = [35] := by decide +kernel
def fmtV : V → Str
  | .str x => EQ1 ++ x
  | .int i => HS1 ++ Str.ofString (toString i)
  | _ => Str.empty
theorem cons_cut {w : Str} {c : Nat} (h : (tl w).head? = some c) : tl w = c :: tl (cut1 w) := by
  rw [tl_cut1]
  cases hx : tl w with
  | nil => rw [hx] at h; simp at h
  | cons a r =>
    rw [hx] at h
    have : a = c := by simpa using h
    rw [this]
    rfl
theorem fmt_back {w : Str} (h : goodValue w = true) : fmtV (valOf w) = w := by
  refine TL.ext_tl ?_
  show tl _ = tl w
  unfold goodValue at h
  by_cases h1 : (tl w).head? = some 61
  · have n35 : ¬ (tl w).head? = some 35 := by rw [h1]; decide
    unfold valOf
    rw [if_neg n35]
    show TL.tl (EQ1 ++ cut1 w) = _
    rw [TL.tl_append, show TL.tl EQ1 = [61] from eq1, cons_cut h1]
    rfl
  · rw [if_neg h1] at h
    unfold goodId at h
    simp only [Bool.and_eq_true, decide_eq_true_eq] at h
    unfold valOf
    rw [if_pos h.1]
    show TL.tl (HS1 ++ Str.ofString (toString (numOf (cut1 w)))) = _
    rw [numOf_back h.2, TL.tl_append, show TL.tl HS1 = [35] from hs1, cons_cut h.1]
    rfl
def goodName (n : Str) : Bool := decide (1 ≤ n.length) && decide (n.length ≤ 12) && onlyIn lets n
def NEW1 : Str := "new"
def goodLine : List Str → Bool
  | [] => false
  | w0 :: r => if w0 = NEW1 then decide (r.length ≤ 3) && r.all goodValue else
    match r with
    | [] => false
    | w1 :: vs => goodId w0 && !decide (w1 = NEW1) && goodName w1 && (decide (vs.length ≤ 3) && vs.all goodValue)
def reqOf : List Str → List V
  | [] => []
  | w0 :: r => if w0 = NEW1 then .str NEW1 :: r.map valOf else
    match r with
    | [] => []
    | w1 :: vs => valOf w0 :: .str w1 :: vs.map valOf

/-! ### replace -/
theorem replS_len (c : Nat) (z : List Nat) : ∀ l : List Nat, (PySem.StrLaws.replL [c] z l).length ≤ l.length * (z.length + 1)
  | [] => by rw [PySem.StrLaws.replL_nil]; simp
  | a :: r => by
    have ih := replS_len c z r
    by_cases h : (a :: r).take [c].length = [c]
    · rw [PySem.StrLaws.replL_hit (by simp) h, List.length_append]
      have e : (a :: r).drop [c].length = r := rfl
      rw [e, List.length_cons, Nat.succ_mul]
      omega
    · rw [PySem.StrLaws.replL_miss h, List.length_cons, List.length_cons, Nat.succ_mul]
      omega
theorem repl_len {x y z : Str} {c : Nat} (ey : tl y = [c]) : (Txt.replace x y z).length ≤ x.length * (z.length + 1) := by
  have h := PySem.StrLaws.replace_list (x := x) (z := z) (y := y) (by rw [TL.len_tl, show TL.tl y = [c] from ey]; exact Nat.le_refl 1)
  have h2 := replS_len c (tl z) (tl x)
  rw [TL.len_tl, show TL.tl (Txt.replace x y z) = _ from h, show y.cps.toList = [c] from ey, TL.len_tl x, TL.len_tl z]
  exact h2
end TK

/-! TC1: comprehensions whose turns leave all that stood: by a relation, by a filter. -/
namespace TK
open PySem PySem.Spec PyProof.Rows L2
theorem Paired.snoc {α β : Type} {R : α → β → Prop} : ∀ {l : List α} {m : List β} {a : α} {b : β}, Paired R l m → R a b → Paired R (l ++ [a]) (m ++ [b])
  | _, _, _, _, .nil, r => .cons r .nil
  | _, _, _, _, .cons q t, r => .cons q (Paired.snoc t r)
theorem take_snoc {α : Type} : ∀ {l : List α} {i : Nat} {x : α}, l[i]? = some x → l.take (i + 1) = l.take i ++ [x]
  | [], i, x, h => by simp at h
  | a :: l, 0, x, h => by
    have e : a = x := by simpa using h
    rw [e]
    rfl
  | a :: l, i + 1, x, h => by
    have ih := take_snoc (l := l) (i := i) (x := x) (by simpa using h)
    show a :: l.take (i + 1) = a :: l.take i ++ [x]
    rw [ih]
    rfl
/-- any walk of n turns that leaves the heap as it is -/
theorem lc_gen {J : It} {n : Nat} {g : TG} {tt : TT} {te : TE} {vs : List Nat} {σ : L2.St} {H1 : Hp} {D : Addr} {Qd : Hp → Prop} (Pv : Nat → Hp → Prop) (h0 : Pv 0 (upd H1 D (.lst [])))
    (hgo : ∀ i H, i < n → Pv i H → J.go i H) (hst : ∀ H, Pv n H → J.stop n H) (hy : ∀ i H x H', J.yld i H x H' → H' = H)
    (hs : ∀ i x H, i < n → Pv i H → J.yld i H x H → g x (wipe σ vs) H fun σ2 H2 => wipe σ2 vs = wipe σ vs ∧ tt σ2 H2 fun b H3 =>
      if b = true then te σ2 H3 fun y H4 => ∃ acc, H4 D = some (.lst acc) ∧ acc.length < sizeLine ∧ Pv (i + 1) (upd H4 D (.lst (acc ++ [y]))) else Pv (i + 1) H3) (hd : ∀ H, Pv n H → Qd H) :
    ∃ W : Nat → Nat → Hp → Prop, (∃ m, W 0 m (upd H1 D (.lst []))) ∧ ∀ i m H, W i m H →
      (J.stop i H ∧ Qd H) ∨ (J.go i H ∧ ∃ Nx : Hp → Prop, (∀ H', Nx H' → ∃ m', m' < m ∧ W (i + 1) m' H') ∧ ∀ x H', J.yld i H x H' → g x (wipe σ vs) H' fun σ2 H2 => wipe σ2 vs = wipe σ vs ∧ tt σ2 H2 fun b H3 =>
        if b = true then te σ2 H3 fun y H4 => ∃ acc, H4 D = some (.lst acc) ∧ acc.length < sizeLine ∧ Nx (upd H4 D (.lst (acc ++ [y]))) else Nx H3) := by
  refine ⟨fun i m H => m = n - i ∧ i ≤ n ∧ Pv i H, ⟨n, by simp, Nat.zero_le _, h0⟩, ?_⟩
  rintro i m H ⟨rfl, hi, p⟩
  by_cases hlt : i < n
  · refine .inr ⟨hgo i H hlt p, Pv (i + 1), fun H' p' => ⟨n - (i + 1), by omega, rfl, hlt, p'⟩, fun x H' y => ?_⟩
    have e := hy i H x H' y
    subst e
    exact hs i x _ hlt p y
  · have e : i = n := by omega
    subst e
    exact .inl ⟨hst H p, hd H p⟩
theorem wipe1 {σ : L2.St} {slot : Nat} {v : V} : wipe ((wipe σ [slot]).set slot (some v)) [slot] = wipe σ [slot] := by
  show (((wipe σ []).set slot none).set slot (some v)).set slot none = (wipe σ []).set slot none
  simp [List.set_set]
/-- every turn adds one item: its relation to the turn's item -/
theorem lcR {J : It} {xs : List V} {R : V → V → Prop} {slot : Nat} {vs : List Nat} {te : TE} {σ : L2.St} {H1 : Hp} {D : Addr} {Qd : Hp → Prop} (hD : H1 D = none) (hn : xs.length ≤ 10000000)
    (hgo : ∀ i H, i < xs.length → Same H1 H → J.go i H) (hst : ∀ H, Same H1 H → J.stop xs.length H) (hy : ∀ i H x H', J.yld i H x H' → H' = H) (hx : ∀ i H x, i < xs.length → Same H1 H → J.yld i H x H → xs[i]? = some x)
    (step : ∀ (i : Nat) (x : V) (H : Hp) (Q2 : VK), xs[i]? = some x → Same H1 H → (∀ y H4, R x y → Same H H4 → Q2 y H4) → te ((wipe σ [slot]).set slot (some x)) H Q2)
    (done : ∀ (ys : List V) (H' : Hp), Paired R xs ys → Same H1 H' → H' D = some (.lst ys) → Qd H') (hv : vs = [slot] := by rfl) :
    ∃ W : Nat → Nat → Hp → Prop, (∃ m, W 0 m (upd H1 D (.lst []))) ∧ ∀ i m H, W i m H →
      (J.stop i H ∧ Qd H) ∨ (J.go i H ∧ ∃ Nx : Hp → Prop, (∀ H', Nx H' → ∃ m', m' < m ∧ W (i + 1) m' H') ∧ ∀ x H', J.yld i H x H' → gName slot x (wipe σ vs) H' fun σ2 H2 => wipe σ2 vs = wipe σ vs ∧ tYes σ2 H2 fun b H3 =>
        if b = true then te σ2 H3 fun y H4 => ∃ acc, H4 D = some (.lst acc) ∧ acc.length < sizeLine ∧ Nx (upd H4 D (.lst (acc ++ [y]))) else Nx H3) := by
  subst hv
  refine lc_gen (n := xs.length) (fun i H => Same H1 H ∧ ∃ ys, Paired R (xs.take i) ys ∧ H D = some (.lst ys)) ⟨same_upd hD, [], .nil, upd_same⟩ (fun i H hi p => hgo i H hi p.1) (fun H p => hst H p.1) hy (fun i x H hi p y => ?_) fun H p => ?_
  · obtain ⟨s, ys, pr, hd⟩ := p
    have ex := hx i H x hi s y
    refine ⟨wipe1, ?_⟩
    dsimp only [tYes]
    rw [if_pos rfl]
    refine step i x H _ ex s fun z H4 rz s4 => ⟨ys, s4 _ _ hd, ?_, Same.over (s.trans s4) hD, ys ++ [z], ?_, upd_same⟩
    · have e := Paired.length pr
      rw [List.length_take] at e
      rw [sizeLine_eq]
      omega
    · rw [take_snoc ex]
      exact Paired.snoc pr rz
  · obtain ⟨s, ys, pr, hd⟩ := p
    rw [List.take_length] at pr
    exact done ys H pr s hd
/-- the turn's item is kept where its test is p's -/
theorem lcF {J : It} {xs : List V} {p : V → Bool} {slot : Nat} {vs : List Nat} {tt : TT} {σ : L2.St} {H1 : Hp} {D : Addr} {Qd : Hp → Prop} (hD : H1 D = none) (hn : xs.length ≤ 10000000) (hσ : slot < σ.length)
    (hgo : ∀ i H, i < xs.length → Same H1 H → J.go i H) (hst : ∀ H, Same H1 H → J.stop xs.length H) (hy : ∀ i H x H', J.yld i H x H' → H' = H) (hx : ∀ i H x, i < xs.length → Same H1 H → J.yld i H x H → xs[i]? = some x)
    (step : ∀ (i : Nat) (x : V) (H : Hp) (Q2 : Bool → Hp → Prop), xs[i]? = some x → Same H1 H → (∀ H4, Same H H4 → Q2 (p x) H4) → tt ((wipe σ [slot]).set slot (some x)) H Q2)
    (done : ∀ (H' : Hp), Same H1 H' → H' D = some (.lst (xs.filter p)) → Qd H') (hv : vs = [slot] := by rfl) :
    ∃ W : Nat → Nat → Hp → Prop, (∃ m, W 0 m (upd H1 D (.lst []))) ∧ ∀ i m H, W i m H →
      (J.stop i H ∧ Qd H) ∨ (J.go i H ∧ ∃ Nx : Hp → Prop, (∀ H', Nx H' → ∃ m', m' < m ∧ W (i + 1) m' H') ∧ ∀ x H', J.yld i H x H' → gName slot x (wipe σ vs) H' fun σ2 H2 => wipe σ2 vs = wipe σ vs ∧ tt σ2 H2 fun b H3 =>
        if b = true then tVar slot σ2 H3 fun y H4 => ∃ acc, H4 D = some (.lst acc) ∧ acc.length < sizeLine ∧ Nx (upd H4 D (.lst (acc ++ [y]))) else Nx H3) := by
  subst hv
  refine lc_gen (n := xs.length) (fun i H => Same H1 H ∧ H D = some (.lst ((xs.take i).filter p))) ⟨same_upd hD, upd_same⟩ (fun i H hi q => hgo i H hi q.1) (fun H q => hst H q.1) hy (fun i x H hi q y => ?_) fun H q => ?_
  · obtain ⟨s, hd⟩ := q
    have ex := hx i H x hi s y
    refine ⟨wipe1, step i x H _ ex s fun H4 s4 => ?_⟩
    have hd4 := s4 _ _ hd
    cases hp : p x with
    | false =>
      rw [if_neg Bool.false_ne_true]
      refine ⟨s.trans s4, ?_⟩
      rw [take_snoc ex, List.filter_append, hd4]
      simp [hp]
    | true =>
      rw [if_pos rfl]
      refine ⟨x, ?_, _, hd4, ?_, Same.over (s.trans s4) hD, ?_⟩
      · rw [List.getElem?_set_self]
        rw [wipe_length]
        exact hσ
      · have := List.length_filter_le p (xs.take i)
        rw [List.length_take] at this
        rw [sizeLine_eq]
        omega
      · rw [upd_same, take_snoc ex, List.filter_append]
        simp [hp]
  · obtain ⟨s, hd⟩ := q
    rw [List.take_length] at hd
    exact done H s hd

/-! ### the four walks -/
section
variable {K : PySem.W.Frag} {a : Addr} {xs : List V} {H1 H H' : Hp} {i : Nat} {x : V}
/-- one list stands at an address -/
theorem sq_one {H : Hp} {xs ys : List V} (h : SqL K H a xs) (f : ∀ zs, SqL K H a zs → zs[i]? = some x) : xs[i]? = some x := f xs h
theorem goL (h : SqL K H1 a xs) : ∀ i H, i < xs.length → Same H1 H → (Itl K a).go i H := fun i H hi s => ⟨xs, xs[i], s.seq h, List.getElem?_eq_getElem hi⟩
theorem stL (h : SqL K H1 a xs) : ∀ H, Same H1 H → (Itl K a).stop xs.length H := fun H s => ⟨xs, s.seq h, Nat.le_refl _⟩
theorem yL : ∀ i H x H', (Itl K a).yld i H x H' → H' = H := fun _ _ _ _ y => y.1
theorem xL (h : SqL K H1 a xs) : ∀ i H x, i < xs.length → Same H1 H → (Itl K a).yld i H x H → xs[i]? = some x := fun i H x _ s y => y.2 xs (s.seq h)
theorem goT (h : SqT K H1 a xs) : ∀ i H, i < xs.length → Same H1 H → (Itt K a).go i H := fun i H hi s => ⟨xs, xs[i], Same.tup s h, List.getElem?_eq_getElem hi⟩
theorem stT (h : SqT K H1 a xs) : ∀ H, Same H1 H → (Itt K a).stop xs.length H := fun H s => ⟨xs, Same.tup s h, Nat.le_refl _⟩
theorem yT : ∀ i H x H', (Itt K a).yld i H x H' → H' = H := fun _ _ _ _ y => y.1
theorem xT (h : SqT K H1 a xs) : ∀ i H x, i < xs.length → Same H1 H → (Itt K a).yld i H x H → xs[i]? = some x := fun i H x _ s y => y.2 xs (Same.tup s h)
theorem signs_len (z : Str) : (signs z).length = z.cps.size := by
  unfold signs
  rw [List.length_map]
  simp [TL.tl]
theorem signs_get {z : Str} {c : Nat} (h : z.cps[i]? = some c) : (signs z)[i]? = some (.str ⟨#[c]⟩) := by
  unfold signs
  rw [List.getElem?_map]
  have e : (TL.tl z)[i]? = some c := by
    unfold TL.tl
    rw [Array.getElem?_toList]
    exact h
  rw [e]
  rfl
theorem goS (z : Str) : ∀ i H, i < (signs z).length → Same H1 H → (Its z).go i H := fun i H hi _ => by
  rw [signs_len] at hi
  exact hi
theorem stS (z : Str) : ∀ H, Same H1 H → (Its z).stop (signs z).length H := fun H _ => by
  rw [signs_len]
  exact Nat.le_refl _
theorem yS (z : Str) : ∀ i H x H', (Its z).yld i H x H' → H' = H := fun _ _ _ _ y => y.1
theorem xS (z : Str) : ∀ i H x, i < (signs z).length → Same H1 H → (Its z).yld i H x H → (signs z)[i]? = some x := fun i H x _ _ y => by
  obtain ⟨_, c, hc, rfl⟩ := y
  exact signs_get hc
/-- the ints of range(n) -/
def upto (n : Nat) : List V := (List.range n).map fun (k : Nat) => V.int (k : Int)
theorem upto_len (n : Nat) : (upto n).length = n := by
  unfold upto
  rw [List.length_map, List.length_range]
theorem goR (n : Nat) : ∀ i H, i < (upto n).length → Same H1 H → (Itr 0 n).go i H := fun i H hi _ => by
  rw [upto_len] at hi
  exact hi
theorem stR (n : Nat) : ∀ H, Same H1 H → (Itr 0 n).stop (upto n).length H := fun H _ => by
  rw [upto_len]
  exact Nat.le_refl _
theorem yR (n : Nat) : ∀ i H x H', (Itr 0 n).yld i H x H' → H' = H := fun _ _ _ _ y => y.1
theorem xR (n : Nat) : ∀ i H x, i < (upto n).length → Same H1 H → (Itr 0 n).yld i H x H → (upto n)[i]? = some x := fun i H x hi _ y => by
  rw [upto_len] at hi
  obtain ⟨_, rfl⟩ := y
  unfold upto
  rw [List.getElem?_map, List.getElem?_range hi]
  show some (V.int (i : Int)) = some (V.int (0 + (i : Int)))
  rw [Int.zero_add]
end
theorem paired_map {f : V → V} : ∀ {xs ys : List V}, Paired (fun x y => y = f x) xs ys → ys = xs.map f
  | _, _, .nil => rfl
  | _, _, .cons r t => by
    rw [List.map_cons, r, paired_map t]
end TK

/-! TG3: _law_kinds, _law_request, _law_word, _law_line. -/
namespace TK
open PySem PySem.Spec PyProof.Rows L2
section
variable {P : Program} {w : World} {K : PySem.W.Frag} {mg : Str → Option Value} {base : Heap} {t1 t2 t3 t4 t5 : Tok}

/-! ### _law_kinds -/
abbrev s_law_kinds : Stmt := topS 29
theorem sc_law_kinds : FnScope ["_law_stream_here", "_law_count", "_law_names_here", "_law_kinds_here", "_law_name"] ["_law_stream_here"] (defScope s_law_kinds) := ⟨rfl, rfl, rfl, by decide +kernel, rfl, by decide +kernel, by decide +kernel⟩
/-- one kind: one to four short texts -/
def KindAt (H : Hp) (a : Addr) : Prop := ∃ xs : List V, H a = some (.tup xs) ∧ 1 ≤ xs.length ∧ xs.length ≤ 4 ∧ ∀ x ∈ xs, StrLe 20 x
def KindsAt (H : Hp) (l : Addr) : Prop := ∃ as : List Addr, H l = some (.lst (as.map V.ref)) ∧ 1 ≤ as.length ∧ as.length ≤ 6 ∧ ∀ a ∈ as, KindAt H a
theorem Strm.tup_ne {H : Hp} {p a : Addr} {xs : List V} (s : Strm H p) (h : H a = some (.tup xs)) : a ≠ p := fun e => by
  obtain ⟨ns, e2⟩ := s
  rw [e, e2] at h
  cases h
theorem KindAt.but {H H' : Hp} {p a : Addr} (h : KindAt H a) (s : Strm H p) (b : But p H H') : KindAt H' a := let ⟨xs, e, r⟩ := h; ⟨xs, b.1 a _ (s.tup_ne e) e, r⟩
theorem KindAt.same {H H' : Hp} {a : Addr} (h : KindAt H a) (b : Same H H') : KindAt H' a := let ⟨xs, e, r⟩ := h; ⟨xs, b a _ e, r⟩
theorem KindAt.over {H : Hp} {a l : Addr} {xs ys : List V} (h : KindAt H a) (hl : H l = some (.lst xs)) : KindAt (upd H l (.lst ys)) a := let ⟨zs, e, r⟩ := h; ⟨zs, (upd_ne (fun z => by rw [z, hl] at e; cases e)).trans e, r⟩
theorem KindsAt.but {H H' : Hp} {p l : Addr} (h : KindsAt H l) (s : Strm H p) (n : l ≠ p) (b : But p H H') : KindsAt H' l := let ⟨as, e, h1, h2, r⟩ := h; ⟨as, b.1 l _ n e, h1, h2, fun a ha => (r a ha).but s b⟩
def spKinds : Sp := fun vs H Q _ => ∃ (p : Addr), vs = [.ref p] ∧ Strm H p ∧ ∀ (l : Addr) H', H l = none → But p H H' → KindsAt H' l → Q (.ref l) H'
theorem ok_kinds {f : Addr} {fd : FuncData} (T : Txt mg t1 t2 t3 t4 t5) (F : Fun K "_law_kinds" "_law_kinds" s_law_kinds f fd) (C_law_take : Cal P w K mg base CX0 1 "_law_take" ["_law_stream_here", "_law_bound"] spTake)
    (C_law_names : Cal P w K mg base CX0 2 "_law_names" ["_law_stream_here", "_law_count"] spNames) : FnOk P w K mg base CX0 3 f fd ["_law_stream_here"] spKinds := by
  refine F.ok sc_law_kinds (fun vs H Q E h => ?_) (fun cdv A outer s H vs Q E hr h => ?_)
  · obtain ⟨p, rfl, _⟩ := h
    rfl
  · obtain ⟨p, rfl, hp, q⟩ := h
    refine ⟨_, (pss_cons (ps_set (i := 1) sc_law_kinds.nd rfl (.inl rfl) (pe_cal C_law_take (hr.mono (by decide)) (by rfl) pass0 (pa_cons (pv 0) (pa_cons pe_int pa_nil))))
    (pss_cons (ps_set (i := 2) sc_law_kinds.nd rfl (.inl rfl) (pe_op op_cat (pe_lst (pa_cons pe_str pa_nil)) (pe_cal C_law_names (hr.mono (by decide)) (by rfl) pass0 (pa_cons (pv 0) (pa_cons (pv 1) pa_nil)))))
    (pss_cons (ps_set (i := 3) sc_law_kinds.nd rfl (.inl rfl) (pe_lst pa_nil))
    (pss_cons (ps_for PassesOwn.never rfl (pi_list (pv 2)) (pg_name (i := 4) sc_law_kinds.nd rfl (.inl rfl))
      (pss_one (ps_expr (pe_bm PySem.F.plainAttrs_list PySem.F.slot_list_append PySem.F.type_list_append mt_append (pv 3) (pa_cons (pe_callTy call_tuple_of (by rfl) T.m_tuple (by decide +kernel) (pa_cons (pe_op op_cat (pe_lst (pa_cons (pv 4) pa_nil)) (pe_cal C_law_names (hr.mono (by decide)) (by rfl) pass0 (pa_cons (pv 0) (pa_cons (pe_cal C_law_take (hr.mono (by decide)) (by rfl) pass0 (pa_cons (pv 0) (pa_cons pe_int pa_nil))) pa_nil)))) pa_nil)) pa_nil)))))
    (pss_one (ps_ret (pv 3))))))), ?_⟩
    refine ⟨_, rfl, p, 6, rfl, by decide, hp, fun r1 H1 l1 u1 b1 => ?_⟩
    -- ["new"] + names
    refine ⟨by show 1 ≤ sizeLine; decide, fun a na => ?_⟩
    have b2 := b1.new (o := .lst [.str NEW1]) na
    refine ⟨_, rfl, _, rfl, p, r1, rfl, by omega, by omega, b2.2, fun l xs H3 nl hl hx b3 hd => ?_⟩
    have ea : H3 a = some (.lst [.str NEW1]) := b3.1 a _ ((b1.2.ne na).symm) upd_same
    refine ⟨a, l, _, xs, rfl, rfl, ea, hd, ?_, fun N nN => ⟨Nat.zero_le _, fun L nL => ?_⟩⟩
    · rw [sizeLine_eq]
      show 1 + xs.length ≤ _
      omega
    have b4 := (b2.trans b3).new (o := .lst ([V.str NEW1] ++ xs)) nN
    have eN : upd (upd H3 N (.lst ([V.str NEW1] ++ xs))) L (.lst []) N = some (.lst ([V.str NEW1] ++ xs)) := by
      rw [upd_ne (fun z => by rw [z] at nL; rw [← z, upd_same] at nL; cases nL), upd_same]
    have b5 := b4.new (o := .lst []) nL
    have neN : N ≠ p := ((b2.trans b3).2.ne nN).symm
    have neL : L ≠ p := (b4.2.ne nL).symm
    have neNL : N ≠ L := fun z => by rw [← z, upd_same] at nL; cases nL
    have hLn : H L = none := b4.none hp nL
    have hNn : H N = none := (b2.trans b3).none hp nN
    have small : ∀ x ∈ [V.str NEW1] ++ xs, StrLe 20 x := fun x hx' => by
      rcases List.mem_append.mp hx' with hx' | hx'
      · rw [List.mem_singleton.mp hx']
        exact ⟨NEW1, rfl, by decide +kernel⟩
      · exact hx x hx'
    generalize hnames : [V.str NEW1] ++ xs = names at eN small b4 b5
    have hlen : names.length = 1 + xs.length := by
      rw [← hnames]
      simp [Nat.add_comm]
    refine ⟨.ref N, rfl, N, rfl, ⟨names, SqL.of eN⟩, for_list (K := K) (a := N) (xs := names) (fun i σ' H' => ∃ y4, σ' = [some (.ref p), some (.int r1), some (.ref N), some (.ref L), y4] ∧ But p H H' ∧ H' N = some (.lst names) ∧
      ∃ as : List Addr, as.length = i ∧ H' L = some (.lst (as.map V.ref)) ∧ ∀ a ∈ as, KindAt H' a)
      ⟨_, rfl, b5, eN, [], rfl, upd_same, fun x hx => by cases hx⟩ (fun i σ' H' _ hP => let ⟨_, _, _, e, _⟩ := hP; SqL.of e) (fun i x σ' H6 hi hP => ?_) fun σ' H6 hP => ?_⟩
    · obtain ⟨y4, rfl, b6, eN6, as, la, eL6, hk⟩ := hP
      have hx6 := small x (List.mem_of_getElem? hi)
      have hi' : i < names.length := (List.getElem?_eq_some_iff.mp hi).1
      -- kinds.append(tuple([name] + names(..)))
      refine ⟨.ref L, rfl, .inl ⟨rfl, _, SqL.of eL6⟩, ?_⟩
      refine ⟨_, rfl, by show 1 ≤ sizeLine; decide, fun c nc => ?_⟩
      have b7 := But.new (o := .lst [x]) (But.refl b6.2) nc
      refine ⟨_, rfl, _, rfl, p, 4, rfl, by decide, b7.2, fun r8 H8 l8 u8 b8 => ?_⟩
      refine ⟨p, r8, rfl, l8, by omega, b8.2, fun m zs H9 nm hm hz b9 hd9 => ?_⟩
      have b79 := (b7.trans b8).trans b9
      have ec : H9 c = some (.lst [x]) := (b8.trans b9).1 c _ ((b6.2.ne nc).symm) upd_same
      refine ⟨c, m, _, zs, rfl, rfl, ec, hd9, by rw [sizeLine_eq]; show 1 + zs.length ≤ _; omega, fun d nd => ?_⟩
      refine ⟨d, _, rfl, .inl ⟨SqL.of upd_same, fun t nt => ?_⟩⟩
      have b10 := (b79.new (o := .lst ([x] ++ zs)) nd).new (o := .tup ([x] ++ zs)) nt
      have eL : (upd (upd H9 d (.lst ([x] ++ zs))) t (.tup ([x] ++ zs))) L = some (.lst (as.map V.ref)) := b10.1 L _ neL eL6
      have eN' : (upd (upd H9 d (.lst ([x] ++ zs))) t (.tup ([x] ++ zs))) N = some (.lst names) := b10.1 N _ neN eN6
      have kt : KindAt (upd (upd H9 d (.lst ([x] ++ zs))) t (.tup ([x] ++ zs))) t := ⟨[x] ++ zs, upd_same, by simp, by rw [List.length_append, List.length_singleton]; omega, fun y hy => by
        rcases List.mem_append.mp hy with hy | hy
        · rw [List.mem_singleton.mp hy]
          exact hx6
        · exact hz y hy⟩
      refine ⟨L, as.map V.ref, .ref t, rfl, rfl, eL, by rw [sizeLine_eq, List.length_map]; omega, ?_⟩
      refine ⟨_, rfl, ⟨fun b o hb e => ?_, ?_⟩, ?_, as ++ [t], by rw [List.length_append, la]; rfl, ?_, fun a ha => ?_⟩
      · rw [upd_ne (ne_of_none e hLn)]
        exact (b6.trans b10).1 b o hb e
      · obtain ⟨ns, e⟩ := b10.2
        exact ⟨ns, (upd_ne neL.symm).trans e⟩
      · rw [upd_ne neNL]
        exact eN'
      · rw [upd_same, List.map_append]
        rfl
      · rcases List.mem_append.mp ha with ha | ha
        · exact KindAt.over ((hk a ha).but b6.2 b10) eL
        · rw [List.mem_singleton.mp ha]
          exact KindAt.over kt eL
    · obtain ⟨y4, rfl, b6, eN6, as, la, eL6, hk⟩ := hP
      exact ⟨.ref L, rfl, q L H6 hLn b6 ⟨as, eL6, by omega, by omega, hk⟩⟩

/-! ### _law_request -/
abbrev s_law_request : Stmt := topS 30
theorem sc_law_request : FnScope ["_law_kinds_here", "_law_stream_here", "_law_number", "_law_values", "_law_k"] ["_law_kinds_here", "_law_stream_here"] (defScope s_law_request) := ⟨rfl, rfl, rfl, by decide +kernel, rfl, by decide +kernel, by decide +kernel⟩
/-- an opening, or a request to an object -/
def ReqV (xs : List V) : Prop := (∃ vs : List V, xs = .str NEW1 :: vs ∧ vs.length ≤ 3 ∧ ∀ v ∈ vs, VOk v) ∨
  ∃ (i : Int) (nm : Str) (vs : List V), xs = .int i :: .str nm :: vs ∧ i.natAbs < 2 ^ 128 ∧ nm.length ≤ 20 ∧ vs.length ≤ 3 ∧ ∀ v ∈ vs, VOk v
def spRequest : Sp := fun vs H Q _ => ∃ (l p : Addr), vs = [.ref l, .ref p] ∧ l ≠ p ∧ Strm H p ∧ KindsAt H l ∧ ∀ (a : Addr) (xs : List V) H', H a = none → But p H H' → H' a = some (.tup xs) → ReqV xs → Q (.ref a) H'
theorem ok_request {f : Addr} {fd : FuncData} (T : Txt mg t1 t2 t3 t4 t5) (F : Fun K "_law_request" "_law_request" s_law_request f fd) (C_law_take : Cal P w K mg base CX0 1 "_law_take" ["_law_stream_here", "_law_bound"] spTake)
    (C_law_value : Cal P w K mg base CX0 4 "_law_value" ["_law_stream_here"] spValue) (C_law_id : Cal P w K mg base CX0 2 "_law_id" ["_law_stream_here"] spId) : FnOk P w K mg base CX0 5 f fd ["_law_kinds_here", "_law_stream_here"] spRequest := by
  refine F.ok sc_law_request (fun vs H Q E h => ?_) (fun cdv A outer s H vs Q E hr h => ?_)
  · obtain ⟨l, p, rfl, _⟩ := h
    rfl
  · obtain ⟨l, p, rfl, nlp, hp, ⟨as, el, h1, h6, hk⟩, q⟩ := h
    refine ⟨_, (pss_cons (ps_set (i := 2) sc_law_request.nd rfl (.inl rfl) (pe_cal C_law_take (hr.mono (by decide)) (by rfl) pass0 (pa_cons (pv 1) (pa_cons (pe_callB call_len (by rfl) T.m_len (by decide +kernel) (pa_cons (pv 0) pa_nil)) pa_nil))))
    (pss_cons (ps_setLc (i := 3) (own := [("_law_k", 4)]) (g := gName 4) (by rfl) sc_law_request.nd rfl rfl (sw_true rfl rfl rfl (by decide +kernel)) (pi_range1 (by rfl) T.m_range (pa_cons (pe_op op_sub (pe_callB call_len (by rfl) T.m_len (by decide +kernel) (pa_cons (pe_ix ix_list (pv 0) (pv 2) (fun _ _ => rfl)) pa_nil)) pe_int) pa_nil)) (blkOk_by (own := [("_law_k", 4)]) (N := ["_law_kinds_here", "_law_stream_here", "_law_number", "_law_values", "_law_k"]) (sc := defScope s_law_request) (by decide +kernel))
      (fun _ _ _ _ _ => pg_name (i := 4) sc_law_request.nd rfl (.inl rfl)) (fun _ _ _ _ _ => pts_nil)
      (fun _ _ _ _ _ => (pe_cal C_law_value (hr.mono (by decide)) (by rfl) pass0 (pa_cons (pv 1) pa_nil))))
    (pss_cons (ps_if (pt_cmpR op_eq (pv 2) pe_int (nomark _)) (pss_one (ps_ret (pe_callTy call_tuple_of (by rfl) T.m_tuple (by decide +kernel) (pa_cons (pe_op op_cat (pe_lst (pa_cons pe_str pa_nil)) (pv 3)) pa_nil))))
      pss_nil)
    (pss_one (ps_ret (pe_callTy call_tuple_of (by rfl) T.m_tuple (by decide +kernel) (pa_cons (pe_op op_cat (pe_lst (pa_cons (pe_cal C_law_id (hr.mono (by decide)) (by rfl) pass0 (pa_cons (pv 1) pa_nil)) (pa_cons (pe_ix ix_tup (pe_ix ix_list (pv 0) (pv 2) (fun _ _ => rfl)) pe_int (fun _ _ => rfl)) pa_nil))) (pv 3)) pa_nil))))))), ?_⟩
    refine ⟨_, rfl, .ref l, rfl, .ref l, _, rfl, .inl ⟨_, SqL.of el, rfl⟩, ?_⟩
    rw [List.length_map]
    refine ⟨p, _, rfl, by omega, hp, fun r1 H1 l1 u1 b1 => ?_⟩
    obtain ⟨j, rfl⟩ : ∃ j : Nat, r1 = (j : Int) := ⟨r1.toNat, by omega⟩
    have hr1 : j < as.length := by omega
    obtain ⟨xs, ex, x1, x4, hx⟩ := hk as[j] (List.getElem_mem hr1)
    have ga : atI (as.map V.ref) (j : Int) = some (.ref as[j]) := by
      refine atI_nat ?_
      rw [List.getElem?_map, List.getElem?_eq_getElem hr1]
      rfl
    have el1 : H1 l = some (.lst (as.map V.ref)) := b1.1 l _ nlp el
    have ex1 : H1 as[j] = some (.tup xs) := b1.1 _ _ (hp.tup_ne ex) ex
    -- _law_values
    refine ⟨.ref l, rfl, .int j, rfl, l, _, (j : Int), _, rfl, rfl, SqL.of el1, ga, _, _, rfl, .inr ⟨xs, SqT.of ex1, rfl⟩, _, _, rfl, rfl, _, rfl, by omega, by omega, fun D hD => lcS_range (Pd := VOk) hD b1.2 (by omega) (fun i H Q2 hi b k => ⟨_, rfl, p, rfl, b.2, fun v H' hv b' => k v H' hv b'⟩) fun vs H2 hl hv b2 hd => ?_⟩
    have lv : vs.length ≤ 3 := by omega
    have b12 := b1.trans b2
    have el2 : H2 l = some (.lst (as.map V.ref)) := b2.1 l _ nlp el1
    have ex2 : H2 as[j] = some (.tup xs) := b2.1 _ _ (b1.2.tup_ne ex1) ex1
    have nDp : D ≠ p := (b1.2.ne hD).symm
    refine ⟨_, rfl, rfl, _, rfl, ite_split (fun e => ?_) (fun e => ?_)⟩
    · refine ⟨by show 1 ≤ sizeLine; decide, fun c nc => ?_⟩
      have hd' : (upd H2 c (.lst [.str NEW1])) D = some (.lst vs) := (upd_ne (ne_of_none hd nc)).trans hd
      refine ⟨.ref D, rfl, c, D, [.str NEW1], vs, rfl, rfl, upd_same, hd', by rw [sizeLine_eq]; show 1 + vs.length ≤ _; omega, fun d nd => ⟨d, _, rfl, .inl ⟨SqL.of upd_same, fun t nt => ?_⟩⟩⟩
      have b3 := ((b12.new (o := .lst [V.str NEW1]) nc).new (o := .lst ([V.str NEW1] ++ vs)) nd).new (o := .tup ([V.str NEW1] ++ vs)) nt
      exact q t _ _ (((b12.new (o := .lst [V.str NEW1]) nc).new (o := .lst ([V.str NEW1] ++ vs)) nd).none hp nt) b3 upd_same (.inl ⟨vs, rfl, lv, hv⟩)
    · refine ⟨_, rfl, p, rfl, b12.2, fun i H3 hi b3 => ?_⟩
      have b13 := b12.trans b3
      have el3 : H3 l = some (.lst (as.map V.ref)) := b3.1 l _ nlp el2
      have ex3 : H3 as[j] = some (.tup xs) := b3.1 _ _ (b12.2.tup_ne ex2) ex2
      obtain ⟨x0, xr, rfl⟩ : ∃ x0 xr, xs = x0 :: xr := by
        cases xs with
        | nil => simp at x1
        | cons a r => exact ⟨a, r, rfl⟩
      obtain ⟨nm, rfl, hnm⟩ := hx x0 List.mem_cons_self
      refine ⟨.ref l, rfl, .int j, rfl, l, _, (j : Int), _, rfl, rfl, SqL.of el3, ga, as[j], .str nm :: xr, 0, .str nm, rfl, rfl, SqT.of ex3, atI_nat (j := 0) rfl, by show 2 ≤ sizeLine; decide, fun c nc => ?_⟩
      have hd3 : H3 D = some (.lst vs) := b3.1 D _ nDp hd
      have hd' : (upd H3 c (.lst [.int i, .str nm])) D = some (.lst vs) := (upd_ne (ne_of_none hd3 nc)).trans hd3
      refine ⟨.ref D, rfl, c, D, [.int i, .str nm], vs, rfl, rfl, upd_same, hd', by rw [sizeLine_eq]; show 2 + vs.length ≤ _; omega, fun d nd => ⟨d, _, rfl, .inl ⟨SqL.of upd_same, fun t nt => ?_⟩⟩⟩
      have b4 := (b13.new (o := .lst [V.int i, .str nm]) nc).new (o := .lst ([V.int i, .str nm] ++ vs)) nd
      exact q t _ _ (b4.none hp nt) (b4.new (o := .tup ([V.int i, .str nm] ++ vs)) nt) upd_same (.inr ⟨i, nm, vs, rfl, hi, hnm, lv, hv⟩)

/-! ### _law_word -/
abbrev s_law_word : Stmt := topS 31
theorem sc_law_word : FnScope ["_law_value_here"] ["_law_value_here"] (defScope s_law_word) := ⟨rfl, rfl, rfl, by decide +kernel, rfl, by decide +kernel, by decide +kernel⟩
def spWord : Sp := fun vs H Q _ => ∃ v : V, vs = [v] ∧ VOk v ∧ ∀ t : Str, t.length ≤ 60 → Q (.str t) H
theorem ok_word {f : Addr} {fd : FuncData} {k : Nat} (T : Txt mg t1 t2 t3 t4 t5) (F : Fun K "_law_word" "_law_word" s_law_word f fd) : FnOk P w K mg base CX0 (k + 1) f fd ["_law_value_here"] spWord := by
  refine F.ok sc_law_word (fun vs H Q E h => ?_) (fun cdv A outer s H vs Q E hr h => ?_)
  · obtain ⟨v, rfl, _⟩ := h
    rfl
  · obtain ⟨v, rfl, hv, q⟩ := h
    refine ⟨_, (pss_cons (ps_if (pt_val (pe_callB call_isi (by rfl) T.m_isinstance (by decide +kernel) (pa_cons (pv 0) (pa_cons (pe_bltn (v := .ty "str") (by rfl) T.m_str (by decide +kernel) rfl) pa_nil)))) (pss_one (ps_ret (pe_op op_add_str pe_str (pv 0))))
      pss_nil)
    (pss_one (ps_ret (pe_op op_add_str pe_str (pe_callTy call_str_int (by rfl) T.m_str (by decide +kernel) (pa_cons (pv 0) pa_nil)))))), ?_⟩
    rcases hv with ⟨t, rfl, ht⟩ | ⟨i, rfl, hi⟩
    · have hl : (EQ1 ++ t).length = 1 + t.length := by
        rw [TL.len_tl, TL.tl_append, List.length_append, ← TL.len_tl t, show TL.tl EQ1 = [61] from eq1]
        rfl
      have e1 : EQ1.length = 1 := by decide +kernel
      refine ⟨_, rfl, .str t, .ty "str", .type "str", .type "str", true, rfl, .ty _, .base (.str t), kit_ty (by decide +kernel), true, rfl, iteT ⟨_, rfl, EQ1, t, rfl, rfl, by rw [e1, sizeLine_eq]; omega, q _ (by omega)⟩⟩
    · have hs : (Str.ofString (toString i)).length ≤ 40 := by
        rw [TL.len_tl, show TL.tl (Str.ofString (toString i)) = numI i from tl_toString i]
        exact numI_len hi
      have hl : (HS1 ++ Str.ofString (toString i)).length = 1 + (Str.ofString (toString i)).length := by
        rw [TL.len_tl, TL.tl_append, List.length_append, ← TL.len_tl (Str.ofString (toString i)), show TL.tl HS1 = [35] from hs1]
        rfl
      have e1 : HS1.length = 1 := by decide +kernel
      refine ⟨_, rfl, .int i, .ty "str", .type "int", .type "str", false, rfl, .ty _, .base (.int i), kit_ty (by decide +kernel), false, rfl, iteF ⟨_, rfl, i, rfl, log2_small hi, HS1, Str.ofString (toString i), rfl, rfl, by rw [e1, sizeLine_eq]; omega, q _ (by omega)⟩⟩

/-! ### _law_line -/
abbrev s_law_line : Stmt := topS 32
theorem sc_law_line : FnScope ["_law_request_here", "_law_words", "_law_value_here"] ["_law_request_here"] (defScope s_law_line) := ⟨rfl, rfl, rfl, by decide +kernel, rfl, by decide +kernel, by decide +kernel⟩
def spLine : Sp := fun vs H Q _ => ∃ (a : Addr) (xs : List V), vs = [.ref a] ∧ H a = some (.tup xs) ∧ ReqV xs ∧ ∀ (t : Str) H', t.length ≤ 400 → Same H H' → Q (.str t) H'
theorem cut_from (xs : List V) (k : Nat) : cutV xs (some (k : Int)) none = xs.drop k := by
  unfold cutV
  rw [HT.sIx_none, HT.sIx_nat]
  by_cases h : k ≤ xs.length
  · rw [Nat.min_eq_left h]
    refine List.take_of_length_le ?_
    rw [List.length_drop]
    omega
  · rw [Nat.min_eq_right (by omega), List.drop_of_length_le (Nat.le_refl _), List.drop_of_length_le (by omega)]
    simp
theorem cut_to (xs : List V) (k : Nat) : cutV xs none (some (k : Int)) = xs.take k := by
  unfold cutV
  rw [HT.sIx_none, HT.sIx_nat, List.drop_zero, Nat.sub_zero]
  by_cases h : k ≤ xs.length
  · rw [Nat.min_eq_left h]
  · rw [Nat.min_eq_right (by omega), List.take_of_length_le (Nat.le_refl _), List.take_of_length_le (by omega)]
theorem not_whole {n k : Nat} (h1 : 1 ≤ k) (hn : 1 ≤ n) : ¬ (HT.sIx n 0 (some (k : Int)) = 0 ∧ HT.sIx n n none = n) := fun e => by
  have e1 := e.1
  rw [HT.sIx_nat] at e1
  omega
theorem pairedR_len {R : V → V → Prop} {B : Nat} (h : ∀ x y, R x y → StrLe B y) : ∀ {xs ys : List V}, Paired R xs ys → ∀ y ∈ ys, StrLe B y
  | _, _, .nil, y, hy => by cases hy
  | _, _, .cons r t, y, hy => by
    rcases List.mem_cons.mp hy with e | hy
    · rw [e]
      exact h _ _ r
    · exact pairedR_len h t y hy
theorem line_len {ys : List Str} {n : Nat} (hl : ys.length ≤ 5) (h : ∀ y ∈ ys, y.length ≤ 60) : (ys.map (·.length)).sum + ys.length * SP1.length ≤ 305 ∧ (Txt.join SP1 ys).length ≤ 400 := by
  have e := sum_le 60 ys h
  have e1 : SP1.length = 1 := by decide +kernel
  have e2 : ys.length * 60 ≤ 5 * 60 := Nat.mul_le_mul_right 60 hl
  have e3 := join_len SP1 ys
  rw [e1] at e3 ⊢
  omega
theorem ok_line {f : Addr} {fd : FuncData} (T : Txt mg t1 t2 t3 t4 t5) (F : Fun K "_law_line" "_law_line" s_law_line f fd) (C_law_word : Cal P w K mg base CX0 1 "_law_word" ["_law_value_here"] spWord) : FnOk P w K mg base CX0 2 f fd ["_law_request_here"] spLine := by
  refine F.ok sc_law_line (fun vs H Q E h => ?_) (fun cdv A outer s H vs Q E hr h => ?_)
  · obtain ⟨a, xs, rfl, _⟩ := h
    rfl
  · obtain ⟨a, xs, rfl, ha, hv, q⟩ := h
    refine ⟨_, (pss_consM (ps_if (pt_cmpR op_eq (pe_ix ix_tup (pv 0) pe_int (fun _ _ => rfl)) pe_str (nomark _)) (pss_one (ps_set (i := 1) sc_law_line.nd rfl (.inl rfl) (pe_op op_cat (pe_lst (pa_cons pe_str pa_nil)) (pe_lc (own := [("_law_value_here", 2)]) (g := gName 2) (by rfl) sc_law_line.nd (pi_tup (pe_slice sl_tup (pv 0) (po_some pe_int) po_none)) (blkOk_by (own := [("_law_value_here", 2)]) (N := ["_law_request_here", "_law_words", "_law_value_here"]) (sc := defScope s_law_line) (by decide +kernel))
      (fun _ _ _ _ _ => pg_name (i := 2) sc_law_line.nd rfl (.inl rfl)) (fun _ _ _ _ _ => pts_nil)
      (fun _ _ _ _ _ => (pe_cal C_law_word (hr.mono (by decide)) (by rfl) pass0 (pa_cons (pv 2) pa_nil)))))))
      (pss_one (ps_set (i := 1) sc_law_line.nd rfl (.inl rfl) (pe_op op_cat (pe_lst (pa_cons (pe_cal C_law_word (hr.mono (by decide)) (by rfl) pass0 (pa_cons (pe_ix ix_tup (pv 0) pe_int (fun _ _ => rfl)) pa_nil)) (pa_cons (pe_ix ix_tup (pv 0) pe_int (fun _ _ => rfl)) pa_nil))) (pe_lc (own := [("_law_value_here", 2)]) (g := gName 2) (by rfl) sc_law_line.nd (pi_tup (pe_slice sl_tup (pv 0) (po_some pe_int) po_none)) (blkOk_by (own := [("_law_value_here", 2)]) (N := ["_law_request_here", "_law_words", "_law_value_here"]) (sc := defScope s_law_line) (by decide +kernel))
      (fun _ _ _ _ _ => pg_name (i := 2) sc_law_line.nd rfl (.inl rfl)) (fun _ _ _ _ _ => pts_nil)
      (fun _ _ _ _ _ => (pe_cal C_law_word (hr.mono (by decide)) (by rfl) pass0 (pa_cons (pv 2) pa_nil))))))))
    (pss_one (ps_ret (pe_join pe_str (pv 1))))), ?_⟩
    -- what is behind the words
    have fin : ∀ (H5 : Hp) (L : Addr) (ws : List V), Same H H5 → ws.length ≤ 5 → (∀ x ∈ ws, StrLe 60 x) → H5 L = some (.lst ws) → tM1 (fun x xs H Q => ∃ a p, ∃ ys : List Str, x = .str a ∧ xs = [.ref p] ∧ (SqL K H p (ys.map V.str) ∨ SqT K H p (ys.map V.str)) ∧
        (ys.map (·.length)).sum + ys.length * a.length ≤ 16777216 ∧ Q (.str (Txt.join a ys)) H) (tC (.str " ")) (tVar 1) [some (.ref a), some (.ref L), none] H5 Q := fun H5 L ws s5 hl hx hd => by
      obtain ⟨ys, rfl, hy⟩ := strs_of hx
      rw [List.length_map] at hl
      obtain ⟨k1, k2⟩ := line_len (n := 0) hl hy
      exact ⟨⟨_, rfl⟩, _, rfl, SP1, L, ys, rfl, rfl, .inl (SqL.of hd), by omega, q _ H5 k2 s5⟩
    rcases hv with ⟨vs, rfl, lv, hv⟩ | ⟨i, nm, vs, rfl, hi, hnm, lv, hv⟩
    · refine ⟨fun σ' H' => ∃ (L : Addr) (ws : List V), σ' = [some (.ref a), some (.ref L), none] ∧ Same H H' ∧ ws.length ≤ 5 ∧ (∀ x ∈ ws, StrLe 60 x) ∧ H' L = some (.lst ws), ?_, ?_⟩
      · refine ⟨_, rfl, a, _, 0, .str NEW1, rfl, rfl, SqT.of ha, atI_nat (j := 0) rfl, rfl, _, rfl, ite_split (fun e => ?_) (fun e => absurd rfl e)⟩
        refine ⟨by show 1 ≤ sizeLine; decide, fun c nc => ?_⟩
        refine ⟨.ref a, rfl, 1, rfl, a, _, rfl, SqT.of ((upd_ne (ne_of_none ha nc)).trans ha), not_whole (k := 1) (by decide) (by simp), fun t nt => ?_⟩
        rw [show cutV (V.str NEW1 :: vs) (some 1) none = vs from cut_from _ 1]
        have sT : SqT K (upd (upd H c (.lst [.str NEW1])) t (.tup vs)) t vs := SqT.of upd_same
        refine ⟨t, rfl, ⟨vs, sT⟩, fun D hD => lcR (xs := vs) (R := fun _ y => StrLe 60 y) hD (by omega) (goT sT) (stT sT) yT (xT sT) (fun i x H4 Q2 hi4 s4 k => ⟨x, rfl, x, rfl, hv x (List.mem_of_getElem? hi4), fun t ht => k _ H4 ⟨t, rfl, ht⟩ (Same.refl _)⟩) fun ys H4 pr s4 hd => ?_⟩
        have ec : H4 c = some (.lst [.str NEW1]) := s4 _ _ ((upd_ne (ne_of_none upd_same nt)).trans upd_same)
        have ly : ys.length = vs.length := (Paired.length pr).symm
        refine ⟨c, D, _, ys, rfl, rfl, ec, hd, by rw [sizeLine_eq]; show 1 + ys.length ≤ _; omega, fun L nL => ?_⟩
        refine ⟨L, [.str NEW1] ++ ys, rfl, ?_, by simp; omega, fun x hx => ?_, upd_same⟩
        · exact Same.upd_new (((same_upd nc).trans (same_upd nt)).trans s4) nL
        · rcases List.mem_append.mp hx with hx | hx
          · rw [List.mem_singleton.mp hx]
            exact ⟨NEW1, rfl, by decide +kernel⟩
          · exact pairedR_len (fun _ _ r => r) pr x hx
      · rintro σ' H' ⟨L, ws, rfl, s5, hl, hx, hd⟩
        exact fin H' L ws s5 hl hx hd
    · refine ⟨fun σ' H' => ∃ (L : Addr) (ws : List V), σ' = [some (.ref a), some (.ref L), none] ∧ Same H H' ∧ ws.length ≤ 5 ∧ (∀ x ∈ ws, StrLe 60 x) ∧ H' L = some (.lst ws), ?_, ?_⟩
      · refine ⟨_, rfl, a, _, 0, .int i, rfl, rfl, SqT.of ha, atI_nat (j := 0) rfl, rfl, _, rfl, ite_split (fun e => by cases e) (fun e => ?_)⟩
        refine ⟨_, rfl, a, _, 0, .int i, rfl, rfl, SqT.of ha, atI_nat (j := 0) rfl, .int i, rfl, .inr ⟨i, rfl, hi⟩, fun t0 ht0 => ?_⟩
        refine ⟨_, rfl, a, _, 1, .str nm, rfl, rfl, SqT.of ha, atI_nat (j := 1) rfl, by show 2 ≤ sizeLine; decide, fun c nc => ?_⟩
        refine ⟨.ref a, rfl, 2, rfl, a, _, rfl, SqT.of ((upd_ne (ne_of_none ha nc)).trans ha), not_whole (k := 2) (by decide) (by simp), fun t nt => ?_⟩
        rw [show cutV (V.int i :: V.str nm :: vs) (some 2) none = vs from cut_from _ 2]
        have sT : SqT K (upd (upd H c (.lst [.str t0, .str nm])) t (.tup vs)) t vs := SqT.of upd_same
        refine ⟨t, rfl, ⟨vs, sT⟩, fun D hD => lcR (xs := vs) (R := fun _ y => StrLe 60 y) hD (by omega) (goT sT) (stT sT) yT (xT sT) (fun i x H4 Q2 hi4 s4 k => ⟨x, rfl, x, rfl, hv x (List.mem_of_getElem? hi4), fun t ht => k _ H4 ⟨t, rfl, ht⟩ (Same.refl _)⟩) fun ys H4 pr s4 hd => ?_⟩
        have ec : H4 c = some (.lst [.str t0, .str nm]) := s4 _ _ ((upd_ne (ne_of_none upd_same nt)).trans upd_same)
        have ly : ys.length = vs.length := (Paired.length pr).symm
        refine ⟨c, D, _, ys, rfl, rfl, ec, hd, by rw [sizeLine_eq]; show 2 + ys.length ≤ _; omega, fun L nL => ?_⟩
        refine ⟨L, [.str t0, .str nm] ++ ys, rfl, ?_, by simp; omega, fun x hx => ?_, upd_same⟩
        · exact Same.upd_new (((same_upd nc).trans (same_upd nt)).trans s4) nL
        · rcases List.mem_append.mp hx with hx | hx
          · rcases List.mem_cons.mp hx with e | hx
            · rw [e]
              exact ⟨t0, rfl, ht0⟩
            · rw [List.mem_singleton.mp hx]
              exact ⟨nm, rfl, by omega⟩
          · exact pairedR_len (fun _ _ r => r) pr x hx
      · rintro σ' H' ⟨L, ws, rfl, s5, hl, hx, hd⟩
        exact fin H' L ws s5 hl hx hd
end
end TK

/-! TG4: _law_stream, _law_sign, _law_changed. -/
namespace TK
open PySem PySem.Spec PyProof.Rows L2
section
variable {P : Program} {w : World} {K : PySem.W.Frag} {mg : Str → Option Value} {base : Heap} {t1 t2 t3 t4 t5 : Tok}

/-! ### _law_stream -/
abbrev s_law_stream : Stmt := topS 22
theorem sc_law_stream : FnScope ["_law_script", "_law_count", "_law_stream_here", "_law_cell", "_law_rest", "_law_k", "_law_first"] ["_law_script", "_law_count"] (defScope s_law_stream) := ⟨rfl, rfl, rfl, by decide +kernel, rfl, by decide +kernel, by decide +kernel⟩
def spStream (K : PySem.W.Frag) : Sp := fun vs H Q _ => ∃ (a : Addr) (n : Int) (ns : List Int), vs = [.ref a, .int n] ∧ SqL K H a (ns.map V.int) ∧ ns.length ≤ 63 ∧ 0 ≤ n ∧ n ≤ 300 ∧
  ∀ (p : Addr) H', Same H H' → H p = none → Strm H' p → Q (.ref p) H'
/-- the list at L: new, of ints, not long -/
def Made (H H' : Hp) (L : Addr) (m : Nat) : Prop := Same H H' ∧ H L = none ∧ ∃ ms : List Int, H' L = some (.lst (ms.map V.int)) ∧ ms.length ≤ m
theorem Made.more {H H' : Hp} {L : Addr} {m n : Nat} (h : Made H H' L m) (hn : m ≤ n) : Made H H' L n := let ⟨s, e, ms, e2, l⟩ := h; ⟨s, e, ms, e2, Nat.le_trans l hn⟩
theorem Made.snoc {H H' : Hp} {L : Addr} {m : Nat} {ms : List Int} (h : Made H H' L m) (e : H' L = some (.lst (ms.map V.int))) (l : ms.length ≤ m) (i : Int) : Made H (upd H' L (.lst (ms.map V.int ++ [.int i]))) L (m + 1) :=
  ⟨Same.over h.1 h.2.1, h.2.1, ms ++ [i], by rw [upd_same, List.map_append]; rfl, by rw [List.length_append]; exact Nat.succ_le_succ l⟩
theorem ok_stream {f : Addr} {fd : FuncData} (T : Txt mg t1 t2 t3 t4 t5) (F : Fun K "_law_stream" "_law_stream" s_law_stream f fd) (C_law_mixed : Cal P w K mg base CX0 1 "_law_mixed" ["_law_cell", "_law_k"] spMixed) :
    FnOk P w K mg base CX0 2 f fd ["_law_script", "_law_count"] (spStream K) := by
  refine F.ok sc_law_stream (fun vs H Q E h => ?_) (fun cdv A outer s H vs Q E hr h => ?_)
  · obtain ⟨a, n, ns, rfl, _⟩ := h
    rfl
  · obtain ⟨a, n, ns, rfl, ha, hl, n0, n1, q⟩ := h
    refine ⟨_, (pss_cons (ps_set (i := 2) sc_law_stream.nd rfl (.inl rfl) (pe_lst pa_nil))
    (pss_cons (ps_for PassesOwn.never rfl (pi_list (pe_slice sl_list (pv 0) po_none (po_some pe_int))) (pg_name (i := 3) sc_law_stream.nd rfl (.inl rfl))
      (pss_cons (ps_set (i := 4) sc_law_stream.nd rfl (.inl rfl) (pe_callB call_abs (by rfl) T.m_abs (by decide +kernel) (pa_cons (pe_callTy call_int1 (by rfl) T.m_int (by decide +kernel) (pa_cons (pv 3) pa_nil)) pa_nil)))
    (pss_one (ps_if (pt_cmpR op_ge (pv 4) pe_int (nomark _)) (pss_one (ps_for PassesOwn.never rfl (pi_range1 (by rfl) T.m_range (pa_cons pe_int pa_nil)) (pg_name (i := 5) sc_law_stream.nd rfl (.inl rfl))
      (pss_one (ps_if (pt_cmpR op_gt (pv 4) pe_int (nomark _)) (pss_cons (ps_expr (pe_bm PySem.F.plainAttrs_list PySem.F.slot_list_append PySem.F.type_list_append mt_append (pv 2) (pa_cons (pe_op op_mod (pe_callTy call_int1 (by rfl) T.m_int (by decide +kernel) (pa_cons (pv 4) pa_nil)) pe_int) pa_nil)))
    (pss_one (ps_set (i := 4) sc_law_stream.nd rfl (.inl rfl) (pe_op op_fdiv (pv 4) pe_int))))
      pss_nil))))
      (pss_one (ps_for PassesOwn.never rfl (pi_range1 (by rfl) T.m_range (pa_cons pe_int pa_nil)) (pg_name (i := 5) sc_law_stream.nd rfl (.inl rfl))
      (pss_one (ps_expr (pe_bm PySem.F.plainAttrs_list PySem.F.slot_list_append PySem.F.type_list_append mt_append (pv 2) (pa_cons (pe_cal C_law_mixed (hr.mono (by decide)) (by rfl) pass0 (pa_cons (pv 4) (pa_cons (pv 5) pa_nil))) pa_nil))))))))))
    (pss_cons (ps_set (i := 6) sc_law_stream.nd rfl (.inl rfl) pe_int)
    (pss_consM (ps_if (pt_cmpR op_gt (pe_callB call_len (by rfl) T.m_len (by decide +kernel) (pa_cons (pv 0) pa_nil)) pe_int (nomark _)) (pss_one (ps_set (i := 6) sc_law_stream.nd rfl (.inl rfl) (pe_callB call_abs (by rfl) T.m_abs (by decide +kernel) (pa_cons (pe_callTy call_int1 (by rfl) T.m_int (by decide +kernel) (pa_cons (pe_ix ix_list (pv 0) pe_int (fun _ _ => rfl)) pa_nil)) pa_nil))))
      pss_nil)
    (pss_cons (ps_for PassesOwn.never rfl (pi_range1 (by rfl) T.m_range (pa_cons (pv 1) pa_nil)) (pg_name (i := 5) sc_law_stream.nd rfl (.inl rfl))
      (pss_one (ps_expr (pe_bm PySem.F.plainAttrs_list PySem.F.slot_list_append PySem.F.type_list_append mt_append (pv 2) (pa_cons (pe_cal C_law_mixed (hr.mono (by decide)) (by rfl) pass0 (pa_cons (pv 6) (pa_cons (pe_op op_add (pv 5) pe_int) pa_nil))) pa_nil)))))
    (pss_one (ps_ret (pv 2)))))))), ?_⟩
    refine ⟨Nat.zero_le _, fun L nL => ?_⟩
    have hL : H L = none := nL
    have m0 : Made H (upd H L (.lst [])) L 0 := ⟨same_upd nL, hL, [], upd_same, Nat.le_refl _⟩
    refine ⟨.ref a, rfl, 63, rfl, a, _, rfl, (same_upd nL).seq ha, fun S nS => ?_⟩
    rw [show cutV (ns.map V.int) none (some 63) = (ns.take 63).map V.int by rw [List.map_take]; exact cut_to _ 63]
    have sS : Same H (upd (upd H L (.lst [])) S (.lst ((ns.take 63).map V.int))) := Same.upd_new (same_upd nL) nS
    have neLS : L ≠ S := fun z => by rw [← z, upd_same] at nS; cases nS
    have hS : H S = none := by
      cases e : H S with
      | none => rfl
      | some o => rw [(same_upd nL) S o e] at nS; cases nS
    refine ⟨S, rfl, ⟨_, SqL.of upd_same⟩, for_list (K := K) (a := S) (xs := (ns.take 63).map V.int) (fun i σ' H' => ∃ y3 y4 y5 y6, σ' = [some (.ref a), some (.int n), some (.ref L), y3, y4, y5, y6] ∧ Made H H' L (i * 60) ∧ H' S = some (.lst ((ns.take 63).map V.int)))
      ⟨_, _, _, _, rfl, ⟨sS, hL, [], (upd_ne neLS).trans upd_same, Nat.zero_le _⟩, upd_same⟩ (fun i σ' H' _ hP => let ⟨_, _, _, _, _, _, e⟩ := hP; SqL.of e) (fun i x σ' H6 hi hP => ?_) fun σ' H6 hP => ?_⟩
    · obtain ⟨y3, y4, y5, y6, rfl, hm, eS⟩ := hP
      have hi' : i < ((ns.take 63).map V.int).length := (List.getElem?_eq_some_iff.mp hi).1
      rw [List.length_map, List.length_take] at hi'
      obtain ⟨c, rfl⟩ : ∃ c : Int, x = .int c := by
        rw [List.getElem?_map] at hi
        cases e : (ns.take 63)[i]? with
        | none => rw [e] at hi; cases hi
        | some c => rw [e] at hi; exact ⟨c, (Option.some.inj hi).symm⟩
      refine ⟨_, rfl, .inl ⟨_, rfl, _, rfl, ?_⟩⟩
      have r0 : 0 ≤ (if c < 0 then -c else c) := by split <;> omega
      generalize (if c < 0 then -c else c) = r at r0 ⊢
      refine ⟨_, rfl, _, _, rfl, rfl, _, rfl, ite_split (fun e => ?_) (fun e => ?_)⟩
      · refine ⟨60, rfl, by decide, by decide, for_range (lo := 0) (n := 60) (fun j σ' H' => ∃ (y5 y6 : Option V) (r : Int), σ' = [some (.ref a), some (.int n), some (.ref L), some (.int c), some (.int r), y5, y6] ∧ 0 ≤ r ∧ Made H H' L (i * 60 + j) ∧ H' S = some (.lst ((ns.take 63).map V.int)))
          ⟨_, _, _, rfl, r0, hm, eS⟩ (fun j σ' H7 hj hP => ?_) fun σ' H7 hP => ?_⟩
        · obtain ⟨y5, y6, r, rfl, r0, hm, eS⟩ := hP
          obtain ⟨s7, _, ms, e7, l7⟩ := hm
          refine ⟨_, rfl, _, _, rfl, rfl, _, rfl, ite_split (fun e => ?_) (fun e => ?_)⟩
          · refine ⟨.ref L, rfl, .inl ⟨rfl, _, SqL.of e7⟩, _, rfl, .inl ⟨_, rfl, _, _, rfl, rfl, (by decide : (0 : Int) < 1000), L, _, _, rfl, rfl, e7, by rw [sizeLine_eq, List.length_map]; omega, ?_⟩⟩
            refine ⟨_, rfl, _, _, rfl, rfl, ⟨by decide, by decide⟩, _, _, _, rfl, Int.ediv_nonneg r0 (by decide), Made.snoc ⟨s7, hL, ms, e7, l7⟩ e7 l7 _, (upd_ne neLS.symm).trans eS⟩
          · exact ⟨_, _, _, rfl, r0, Made.more ⟨s7, hL, ms, e7, l7⟩ (Nat.le_succ _), eS⟩
        · obtain ⟨y5, y6, r, rfl, r0, hm, eS⟩ := hP
          exact ⟨_, _, _, _, rfl, hm.more (by omega), eS⟩
      · refine ⟨4, rfl, by decide, by decide, for_range (lo := 0) (n := 4) (fun j σ' H' => ∃ (y5 y6 : Option V), σ' = [some (.ref a), some (.int n), some (.ref L), some (.int c), some (.int r), y5, y6] ∧ Made H H' L (i * 60 + j) ∧ H' S = some (.lst ((ns.take 63).map V.int)))
          ⟨_, _, rfl, hm, eS⟩ (fun j σ' H7 hj hP => ?_) fun σ' H7 hP => ?_⟩
        · obtain ⟨y5, y6, rfl, hm, eS⟩ := hP
          obtain ⟨s7, _, ms, e7, l7⟩ := hm
          refine ⟨.ref L, rfl, .inl ⟨rfl, _, SqL.of e7⟩, _, rfl, _, rfl, _, _, rfl, by omega, by omega, fun v => ⟨L, _, _, rfl, rfl, e7, by rw [sizeLine_eq, List.length_map]; omega, ?_⟩⟩
          exact ⟨_, _, rfl, Made.snoc ⟨s7, hL, ms, e7, l7⟩ e7 l7 _, (upd_ne neLS.symm).trans eS⟩
        · obtain ⟨y5, y6, rfl, hm, eS⟩ := hP
          exact ⟨_, _, _, _, rfl, hm.more (by omega), eS⟩
    · obtain ⟨y3, y4, y5, y6, rfl, hm, eS⟩ := hP
      have hm2 : Made H H6 L 3780 := hm.more (by rw [List.length_map, List.length_take]; omega)
      refine ⟨fun σ' H' => H' = H6 ∧ ∃ (y3 y4 y5 : Option V) (i : Int), σ' = [some (.ref a), some (.int n), some (.ref L), y3, y4, y5, some (.int i)], ?_, ?_⟩
      · refine ⟨.ref a, rfl, .ref a, _, rfl, .inl ⟨_, hm.1.seq ha, rfl⟩, _, _, rfl, rfl, _, rfl, ite_split (fun e => ?_) (fun e => ?_)⟩
        · rw [List.length_map] at e
          obtain ⟨c, r, rfl⟩ : ∃ c r, ns = c :: r := by
            cases ns with
            | nil => simp at e
            | cons c r => exact ⟨c, r, rfl⟩
          exact ⟨.ref a, rfl, a, _, 0, .int c, rfl, rfl, hm.1.seq ha, atI_nat (j := 0) rfl, .inl ⟨_, rfl, _, rfl, rfl, _, _, _, _, rfl⟩⟩
        · exact ⟨rfl, _, _, _, _, rfl⟩
      · rintro σ' H' ⟨rfl, y3, y4, y5, g, rfl⟩
        refine ⟨.int n, rfl, n, rfl, by omega, by omega, for_range (lo := 0) (n := n.toNat) (fun j σ' H7 => ∃ (y3 y4 y5 : Option V), σ' = [some (.ref a), some (.int n), some (.ref L), y3, y4, y5, some (.int g)] ∧ Made H H7 L (3780 + j))
          ⟨_, _, _, rfl, hm2⟩ (fun j σ' H7 hj hP => ?_) fun σ' H7 hP => ?_⟩
        · obtain ⟨y3, y4, y5, rfl, hm⟩ := hP
          obtain ⟨s7, _, ms, e7, l7⟩ := hm
          refine ⟨.ref L, rfl, .inl ⟨rfl, _, SqL.of e7⟩, _, rfl, _, rfl, _, _, rfl, rfl, _, _, rfl, by omega, by omega, fun v => ⟨L, _, _, rfl, rfl, e7, by rw [sizeLine_eq, List.length_map]; omega, ?_⟩⟩
          exact ⟨_, _, _, rfl, Made.snoc ⟨s7, hL, ms, e7, l7⟩ e7 l7 _⟩
        · obtain ⟨y3, y4, y5, rfl, s7, _, ms, e7, l7⟩ := hP
          exact ⟨.ref L, rfl, q L H7 s7 hL ⟨ms, e7⟩⟩

theorem app_len (a b : Str) : (a ++ b).length = a.length + b.length := by
  rw [TL.len_tl, TL.tl_append, List.length_append, ← TL.len_tl, ← TL.len_tl]
theorem sgl (c : Nat) : (⟨#[c]⟩ : Str).length = 1 := rfl
theorem atS {z : Str} {r : Int} (h0 : 0 ≤ r) (h1 : r < z.length) : ∃ c, atI z.cps.toList r = some c := by
  have hl : z.cps.toList.length = z.length := by simp [Str.length]
  have hr : r.toNat < z.cps.toList.length := by omega
  have e : r = ((r.toNat : Nat) : Int) := by omega
  rw [e]
  exact ⟨_, atI_nat (List.getElem?_eq_getElem hr)⟩

/-! ### _law_sign -/
abbrev s_law_sign : Stmt := topS 37
theorem sc_law_sign : FnScope ["_law_stream_here", "_law_signs"] ["_law_stream_here"] (defScope s_law_sign) := ⟨rfl, rfl, rfl, by decide +kernel, rfl, by decide +kernel, by decide +kernel⟩
theorem ok_sign {f : Addr} {fd : FuncData} (T : Txt mg t1 t2 t3 t4 t5) (F : Fun K "_law_sign" "_law_sign" s_law_sign f fd) (C_law_take : Cal P w K mg base CX0 1 "_law_take" ["_law_stream_here", "_law_bound"] spTake) : FnOk P w K mg base CX0 2 f fd ["_law_stream_here"] spLetter := by
  refine F.ok sc_law_sign (fun vs H Q E h => ?_) (fun cdv A outer s H vs Q E hr h => ?_)
  · obtain ⟨p, rfl, _⟩ := h
    rfl
  · obtain ⟨p, rfl, hp, q⟩ := h
    refine ⟨_, (pss_cons (ps_set (i := 1) sc_law_sign.nd rfl (.inl rfl) (pe_op op_add_str (pe_op op_mulS pe_str pe_int) pe_str))
    (pss_one (ps_ret (pe_ix ix_str (pv 1) (pe_cal C_law_take (hr.mono (by decide)) (by rfl) pass0 (pa_cons (pv 0) (pa_cons (pe_callB call_len (by rfl) T.m_len (by decide +kernel) (pa_cons (pv 1) pa_nil)) pa_nil))) (fun _ _ => rfl))))), ?_⟩
    refine ⟨_, _, rfl, rfl, by decide, by decide, by decide +kernel, by decide +kernel, fun t ht => ?_⟩
    have ht' : t.length = 56 := by
      have e : (Str.ofString "az=#- \n\t0019nw").length = 14 := by decide +kernel
      rw [e] at ht
      omega
    have e2 : (Str.ofString "!\"#$&'()*+,./23456789:;<>?@ABCXYZ[]^_bcdefghijklmopqrstuvxy{|}~").length ≤ 100 := by decide +kernel
    generalize Str.ofString "!\"#$&'()*+,./23456789:;<>?@ABCXYZ[]^_bcdefghijklmopqrstuvxy{|}~" = z at e2 ⊢
    have el := app_len t z
    refine ⟨_, _, rfl, rfl, by rw [sizeLine_eq]; omega, ?_⟩
    generalize t ++ z = g at el ⊢
    refine ⟨_, rfl, _, rfl, _, rfl, .str g, _, rfl, ⟨by rw [sizeLine_eq]; omega, rfl⟩, p, _, rfl, by omega, hp, fun r H1 h0 h1 b1 => ?_⟩
    obtain ⟨c, hc⟩ := atS h0 h1
    exact ⟨g, r, c, rfl, rfl, by rw [sizeLine_eq]; omega, hc, q c H1 b1⟩

/-! ### _law_changed -/
abbrev s_law_changed : Stmt := topS 38
theorem sc_law_changed : FnScope ["_law_text_here", "_law_stream_here", "_law_pick", "_law_place", "_law_k", "_law_words", "_law_at"] ["_law_text_here", "_law_stream_here"] (defScope s_law_changed) := ⟨rfl, rfl, rfl, by decide +kernel, rfl, by decide +kernel, by decide +kernel⟩
def spChanged : Sp := fun vs H Q _ => ∃ (x : Str) (p : Addr), vs = [.str x, .ref p] ∧ x.length ≤ 20000 ∧ Strm H p ∧ ∀ (t : Str) H', t.length ≤ 6 * x.length + 1000 → But p H H' → Q (.str t) H'
theorem cutV_map (l : List Str) (lo hi : Option Int) : ∃ A B, cutV (l.map V.str) lo hi = ((l.drop A).take B).map V.str :=
  ⟨_, _, by rw [List.map_take, List.map_drop]; rfl⟩
theorem sum_drop : ∀ (l : List Str) (A : Nat), ((l.drop A).map (·.length)).sum ≤ (l.map (·.length)).sum
  | [], A => by simp
  | a :: r, 0 => Nat.le_refl _
  | a :: r, A + 1 => by
    have := sum_drop r A
    rw [List.drop_succ_cons, List.map_cons, List.sum_cons]
    omega
theorem sum_take : ∀ (l : List Str) (A : Nat), ((l.take A).map (·.length)).sum ≤ (l.map (·.length)).sum
  | [], A => by simp
  | a :: r, 0 => by simp
  | a :: r, A + 1 => by
    have := sum_take r A
    rw [List.take_succ_cons, List.map_cons, List.sum_cons, List.map_cons, List.sum_cons]
    omega
theorem piece (l : List Str) (A B : Nat) : (((l.drop A).take B).map (·.length)).sum ≤ (l.map (·.length)).sum ∧ ((l.drop A).take B).length ≤ l.length := by
  refine ⟨Nat.le_trans (sum_take _ _) (sum_drop _ _), ?_⟩
  rw [List.length_take, List.length_drop]
  omega
theorem ok_changed {f : Addr} {fd : FuncData} (T : Txt mg t1 t2 t3 t4 t5) (F : Fun K "_law_changed" "_law_changed" s_law_changed f fd) (C_law_take : Cal P w K mg base CX0 1 "_law_take" ["_law_stream_here", "_law_bound"] spTake)
    (C_law_sign : Cal P w K mg base CX0 2 "_law_sign" ["_law_stream_here"] spLetter) : FnOk P w K mg base CX0 3 f fd ["_law_text_here", "_law_stream_here"] spChanged := by
  refine F.ok sc_law_changed (fun vs H Q E h => ?_) (fun cdv A outer s H vs Q E hr h => ?_)
  · obtain ⟨x, p, rfl, _⟩ := h
    rfl
  · obtain ⟨x, p, rfl, hx, hp, q⟩ := h
    obtain ⟨ft, fdt, FT, mT, kT, bT⟩ := _root_.id C_law_take
    refine ⟨_, (psst_first (i := 2) sc_law_changed.nd rfl (.inl rfl) FT (hr.mono (by decide)) (by rfl) mT kT bT pass0 (pv 1)
    (psst_cons (PST.of (ps_set (i := 3) sc_law_changed.nd rfl (.inl rfl) pe_int))
    (psst_cons (PST.of (ps_for PassesOwn.never rfl (pi_range1 (by rfl) T.m_range (pa_cons (pe_op op_add pe_int (pe_op op_fdiv (pe_callB call_len (by rfl) T.m_len (by decide +kernel) (pa_cons (pv 0) pa_nil)) pe_int)) pa_nil)) (pg_name (i := 4) sc_law_changed.nd rfl (.inl rfl))
      (pss_one (ps_set (i := 3) sc_law_changed.nd rfl (.inl rfl) (pe_op op_add (pv 3) (pe_cal C_law_take (hr.mono (by decide)) (by rfl) pass0 (pa_cons (pv 1) (pa_cons (pe_callB (call_min2 rfl) (by rfl) T.m_min (by decide +kernel) (pa_cons (pe_op op_add (pe_callB call_len (by rfl) T.m_len (by decide +kernel) (pa_cons (pv 0) pa_nil)) pe_int) (pa_cons pe_int pa_nil))) pa_nil))))))))
    (psst_cons (PST.of (ps_if (pt_cmpR op_eq (pv 2) pe_int (nomark _)) (pss_one (ps_ret (pe_op op_add_str (pe_slice sl_str (pv 0) po_none (po_some (pv 3))) (pe_slice sl_str (pv 0) (po_some (pe_op op_add (pv 3) pe_int)) po_none))))
      pss_nil))
    (psst_cons (PST.of (ps_if (pt_cmpR op_eq (pv 2) pe_int (nomark _)) (pss_one (ps_ret (pe_op op_add_str (pe_op op_add_str (pe_slice sl_str (pv 0) po_none (po_some (pv 3))) (pe_cal C_law_sign (hr.mono (by decide)) (by rfl) pass0 (pa_cons (pv 1) pa_nil))) (pe_slice sl_str (pv 0) (po_some (pv 3)) po_none))))
      pss_nil))
    (psst_cons (PST.of (ps_if (pt_cmpR op_eq (pv 2) pe_int (nomark _)) (pss_one (ps_ret (pe_op op_add_str (pe_op op_add_str (pe_slice sl_str (pv 0) po_none (po_some (pv 3))) (pe_cal C_law_sign (hr.mono (by decide)) (by rfl) pass0 (pa_cons (pv 1) pa_nil))) (pe_slice sl_str (pv 0) (po_some (pe_op op_add (pv 3) pe_int)) po_none))))
      pss_nil))
    (psst_cons (PST.of (ps_if (pt_cmpR op_eq (pv 2) pe_int (nomark _)) (pss_one (ps_ret (pe_op op_add_str (pv 0) (pe_ix ix_str pe_str (pe_cal C_law_take (hr.mono (by decide)) (by rfl) pass0 (pa_cons (pv 1) (pa_cons pe_int pa_nil))) (fun _ _ => rfl)))))
      pss_nil))
    (psst_cons (PST.of (ps_if (pt_cmpR op_eq (pv 2) pe_int (nomark _)) (pss_one (ps_ret (pe_op op_add_str (pv 0) (pe_slice sl_str pe_str po_none (po_some (pe_op op_add pe_int (pe_op op_mul pe_int (pe_cal C_law_take (hr.mono (by decide)) (by rfl) pass0 (pa_cons (pv 1) (pa_cons pe_int pa_nil))))))))))
      pss_nil))
    (psst_cons (CwR.pst_if (pt_cmpR op_eq (pv 2) pe_int (nomark _)) (CwR.psst_one (CwR.pst_ret (CwR.pet_replC (pv 0))))
      CwR.psst_nil)
    (psst_cons (CwR.pst_if (pt_cmpR op_eq (pv 2) pe_int (nomark _)) (CwR.psst_one (CwR.pst_ret (CwR.pet_replC (pv 0))))
      CwR.psst_nil)
    (psst_cons (PST.of (ps_if (pt_cmpR op_eq (pv 2) pe_int (nomark _)) (pss_one (ps_ret (pe_op op_add_str (pv 0) (pe_op op_mulS pe_str (pe_op op_add pe_int (pe_cal C_law_take (hr.mono (by decide)) (by rfl) pass0 (pa_cons (pv 1) (pa_cons pe_int pa_nil))))))))
      pss_nil))
    (PSsT.of (pss_cons (ps_set (i := 5) sc_law_changed.nd rfl (.inl rfl) (pe_split (pv 0) pe_str))
    (pss_cons (ps_set (i := 6) sc_law_changed.nd rfl (.inl rfl) (pe_cal C_law_take (hr.mono (by decide)) (by rfl) pass0 (pa_cons (pv 1) (pa_cons (pe_callB call_len (by rfl) T.m_len (by decide +kernel) (pa_cons (pv 5) pa_nil)) pa_nil))))
    (pss_one (ps_ret (pe_join pe_str (pe_op op_cat (pe_op op_cat (pe_slice sl_list (pv 5) po_none (po_some (pv 6))) (pe_slice sl_list (pv 5) (po_some (pv 6)) (po_some (pe_op op_add (pv 6) pe_int)))) (pe_slice sl_list (pv 5) (po_some (pv 6)) po_none))))))))))))))))))), ?_⟩
    have xs1 : x.length ≤ sizeLine := by rw [sizeLine_eq]; omega
    refine ⟨_, rfl, p, 9, rfl, by decide, hp, fun r1 H1 l1 u1 b1 => ?_⟩
    refine ⟨.str x, rfl, .str x, _, rfl, ⟨xs1, rfl⟩, _, _, rfl, rfl, ⟨by decide, by decide⟩, _, _, rfl, rfl, _, rfl, by omega, by omega,
      for_range (lo := 0) (n := (1 + (x.length : Int) / 1000).toNat) (fun j σ' H' => ∃ (pl : Int) (y4 : Option V), σ' = [some (.str x), some (.ref p), some (.int r1), some (.int pl), y4, none, none] ∧ 0 ≤ pl ∧ But p H H')
      ⟨0, none, rfl, Int.le_refl _, b1⟩ (fun j σ' H2 hj hP => ?_) fun σ' H2 hP => ?_⟩
    · obtain ⟨pl, y4, rfl, p0, b2⟩ := hP
      refine ⟨_, rfl, _, rfl, .str x, rfl, .str x, _, rfl, ⟨xs1, rfl⟩, _, _, rfl, rfl, _, _, rfl, p, _, rfl, ?_, b2.2, fun r H3 l3 u3 b3 => ⟨_, _, rfl, rfl, _, _, rfl, by omega, b2.trans b3⟩⟩
      split <;> omega
    obtain ⟨pl, y4, rfl, p0, b2⟩ := hP
    have cl : ∀ lo hi, (cutS x lo hi).length ≤ x.length := cutS_length x
    refine ⟨_, rfl, rfl, _, rfl, ite_split (fun e => ?_) (fun e => ?_)⟩
    · refine ⟨.str x, rfl, .int pl, rfl, pl, rfl, x, rfl, xs1, .str x, rfl, .int pl, rfl, _, _, rfl, rfl, _, rfl, x, rfl, xs1, _, _, rfl, rfl, ?_, q _ H2 ?_ b2⟩
      · have h1 := cl none (some pl)
        have h2 := cl (some (pl + 1)) none
        rw [sizeLine_eq]
        omega
      · have h1 := cl none (some pl)
        have h2 := cl (some (pl + 1)) none
        rw [app_len]
        omega
    refine ⟨_, rfl, rfl, _, rfl, ite_split (fun e => ?_) (fun e => ?_)⟩
    · have h1 := cl none (some pl)
      have h2 := cl (some pl) none
      refine ⟨.str x, rfl, .int pl, rfl, pl, rfl, x, rfl, xs1, _, rfl, p, rfl, b2.2, fun c H3 b3 => ⟨_, _, rfl, rfl, ?_, .str x, rfl, .int pl, rfl, pl, rfl, x, rfl, xs1, _, _, rfl, rfl, ?_, q _ H3 ?_ (b2.trans b3)⟩⟩
      · rw [sizeLine_eq, sgl]
        omega
      · rw [sizeLine_eq, app_len, sgl]
        omega
      · rw [app_len, app_len, sgl]
        omega
    refine ⟨_, rfl, rfl, _, rfl, ite_split (fun e => ?_) (fun e => ?_)⟩
    · have h1 := cl none (some pl)
      have h2 := cl (some (pl + 1)) none
      refine ⟨.str x, rfl, .int pl, rfl, pl, rfl, x, rfl, xs1, _, rfl, p, rfl, b2.2, fun c H3 b3 => ⟨_, _, rfl, rfl, ?_, .str x, rfl, .int pl, rfl, _, _, rfl, rfl, _, rfl, x, rfl, xs1, _, _, rfl, rfl, ?_, q _ H3 ?_ (b2.trans b3)⟩⟩
      · rw [sizeLine_eq, sgl]
        omega
      · rw [sizeLine_eq, app_len, sgl]
        omega
      · rw [app_len, app_len, sgl]
        omega
    refine ⟨_, rfl, rfl, _, rfl, ite_split (fun e => ?_) (fun e => ?_)⟩
    · refine ⟨.str x, rfl, _, rfl, p, 2, rfl, by decide, b2.2, fun r H3 l3 u3 b3 => ?_⟩
      have l2 : (Str.ofString "\n ").length = 2 := by decide +kernel
      obtain ⟨c, hc⟩ := atS (z := "\n ") l3 (by rw [l2]; omega)
      refine ⟨_, r, c, rfl, rfl, by rw [l2, sizeLine_eq]; omega, hc, _, _, rfl, rfl, ?_, q _ H3 ?_ (b2.trans b3)⟩
      · rw [sizeLine_eq, sgl]
        omega
      · rw [app_len, sgl]
        omega
    refine ⟨_, rfl, rfl, _, rfl, ite_split (fun e => ?_) (fun e => ?_)⟩
    · refine ⟨.str x, rfl, _, rfl, p, 4, rfl, by decide, b2.2, fun r H3 l3 u3 b3 => ?_⟩
      have l2 : (Str.ofString " =a #1 =b #-2").length ≤ 20 := by decide +kernel
      generalize Str.ofString " =a #1 =b #-2" = z at l2 ⊢
      have l4 := cutS_length z none (some (4 + 3 * r))
      refine ⟨_, _, rfl, rfl, .inl ⟨by decide, by decide⟩, _, _, rfl, rfl, _, rfl, z, rfl, by rw [sizeLine_eq]; omega, _, _, rfl, rfl, ?_, q _ H3 ?_ (b2.trans b3)⟩
      · rw [sizeLine_eq]
        omega
      · rw [app_len]
        omega
    refine ⟨_, rfl, rfl, _, rfl, ite_split (fun e => ?_) (fun e => ?_)⟩
    · have l2 : (Str.ofString "#0").length = 2 := by decide +kernel
      have l3 := repl_len (x := x) (y := HS1) (z := "#0") hs1
      rw [l2] at l3
      refine ⟨.str x, rfl, x, rfl, ?_, q _ H2 ?_ b2⟩
      · rw [l2]
        omega
      · refine Nat.le_trans l3 ?_
        omega
    refine ⟨_, rfl, rfl, _, rfl, ite_split (fun e => ?_) (fun e => ?_)⟩
    · have l2 : (Str.ofString "#-").length = 2 := by decide +kernel
      have l3 := repl_len (x := x) (y := HS1) (z := "#-") hs1
      rw [l2] at l3
      refine ⟨.str x, rfl, x, rfl, ?_, q _ H2 ?_ b2⟩
      · rw [l2]
        omega
      · refine Nat.le_trans l3 ?_
        omega
    refine ⟨_, rfl, rfl, _, rfl, ite_split (fun e => ?_) (fun e => ?_)⟩
    · refine ⟨.str x, rfl, _, rfl, p, 6, rfl, by decide, b2.2, fun r H3 l3 u3 b3 => ?_⟩
      refine ⟨_, _, rfl, rfl, _, _, rfl, rfl, by omega, by omega, by decide +kernel, by decide +kernel, fun t ht => ?_⟩
      have l2 : (Str.ofString "1").length = 1 := by decide +kernel
      rw [l2] at ht
      refine ⟨_, _, rfl, rfl, ?_, q _ H3 ?_ (b2.trans b3)⟩
      · rw [sizeLine_eq]
        omega
      · rw [app_len]
        omega
    -- a word twice
    refine ⟨.str x, rfl, ⟨_, rfl⟩, x, _, rfl, rfl, by decide +kernel, by rw [sizeLine_eq]; omega, fun W nW => ?_⟩
    obtain ⟨ss, sc⟩ := split_sum sp1 sp2 x
    have sn := split_ne sp1 sp2 x
    generalize hws : Txt.split x SP1 = ws at ss sc sn
    have hws' : Txt.split x (Str.ofString " ") = ws := hws
    rw [hws']
    have b3 := b2.new (o := .lst (ws.map V.str)) nW
    have neW : W ≠ p := (b2.2.ne nW).symm
    have lw : 1 ≤ ws.length := List.length_pos_iff.mpr sn
    refine ⟨_, rfl, .ref W, rfl, .ref W, _, rfl, .inl ⟨_, SqL.of upd_same, rfl⟩, p, _, rfl, by rw [List.length_map]; omega, b3.2, fun r H4 l4 u4 b4 => ?_⟩
    have eW : H4 W = some (.lst (ws.map V.str)) := b4.1 W _ neW upd_same
    obtain ⟨A1, B1, e1⟩ := cutV_map ws none (some r)
    obtain ⟨A2, B2, e2⟩ := cutV_map ws (some r) (some (r + 1))
    obtain ⟨A3, B3, e3⟩ := cutV_map ws (some r) none
    obtain ⟨k1, n1⟩ := piece ws A1 B1
    obtain ⟨k2, n2⟩ := piece ws A2 B2
    obtain ⟨k3, n3⟩ := piece ws A3 B3
    generalize (ws.drop A1).take B1 = w1 at e1 k1 n1
    generalize (ws.drop A2).take B2 = w2 at e2 k2 n2
    generalize (ws.drop A3).take B3 = w3 at e3 k3 n3
    refine ⟨⟨_, rfl⟩, .ref W, rfl, .int r, rfl, r, rfl, W, _, rfl, SqL.of eW, fun c nc => ?_⟩
    rw [e1]
    have eW1 : (upd H4 c (.lst (w1.map V.str))) W = some (.lst (ws.map V.str)) := (upd_ne (ne_of_none eW nc)).trans eW
    refine ⟨.ref W, rfl, .int r, rfl, r, rfl, .int r, rfl, _, _, rfl, rfl, _, rfl, W, _, rfl, SqL.of eW1, fun d nd => ?_⟩
    rw [e2]
    have eW2 : (upd (upd H4 c (.lst (w1.map V.str))) d (.lst (w2.map V.str))) W = some (.lst (ws.map V.str)) := (upd_ne (ne_of_none eW1 nd)).trans eW1
    have ec2 : (upd (upd H4 c (.lst (w1.map V.str))) d (.lst (w2.map V.str))) c = some (.lst (w1.map V.str)) := (upd_ne (ne_of_none upd_same nd)).trans upd_same
    refine ⟨c, d, _, _, rfl, rfl, ec2, upd_same, by rw [sizeLine_eq, List.length_map, List.length_map]; omega, fun g ng => ?_⟩
    have eW3 := (upd_ne (o := .lst (w1.map V.str ++ w2.map V.str)) (ne_of_none eW2 ng)).trans eW2
    refine ⟨.ref W, rfl, .int r, rfl, r, rfl, W, _, rfl, SqL.of eW3, fun i ni => ?_⟩
    rw [e3]
    have eg0 : (upd (upd (upd H4 c (.lst (w1.map V.str))) d (.lst (w2.map V.str))) g (.lst (w1.map V.str ++ w2.map V.str))) g = some (.lst (w1.map V.str ++ w2.map V.str)) := upd_same
    have eg := (upd_ne (o := .lst (w3.map V.str)) (ne_of_none eg0 ni)).trans eg0
    refine ⟨g, i, _, _, rfl, rfl, eg, upd_same, by rw [sizeLine_eq, List.length_append, List.length_map, List.length_map, List.length_map]; omega, fun j nj => ?_⟩
    have b5 := ((((b3.trans b4).new (o := .lst (w1.map V.str)) nc).new (o := .lst (w2.map V.str)) nd).new (o := .lst (w1.map V.str ++ w2.map V.str)) ng).new (o := .lst (w3.map V.str)) ni
    have b6 := b5.new (o := .lst (w1.map V.str ++ w2.map V.str ++ w3.map V.str)) nj
    have s1 : SP1.length = 1 := by decide +kernel
    have el : w1.map V.str ++ w2.map V.str ++ w3.map V.str = (w1 ++ w2 ++ w3).map V.str := by rw [List.map_append, List.map_append]
    have es : ((w1 ++ w2 ++ w3).map (·.length)).sum ≤ 3 * x.length := by
      rw [List.map_append, List.map_append, List.sum_append, List.sum_append]
      omega
    have en : (w1 ++ w2 ++ w3).length ≤ 3 * x.length + 3 := by
      rw [List.length_append, List.length_append]
      omega
    refine ⟨SP1, j, w1 ++ w2 ++ w3, rfl, rfl, .inl (SqL.of (by rw [el]; exact upd_same)), ?_, q _ _ ?_ b6⟩
    · rw [s1]
      omega
    · have h1 := join_len SP1 (w1 ++ w2 ++ w3)
      rw [s1] at h1
      omega
end
end TK

/-! TP1: the two exceptions made, is_text, is_name, format_value, format_request, format_talk. -/
namespace TK
open PySem PySem.Spec PyProof.Rows L2

/-! ### TalkError.__init__, BadLine.__init__ -/
def clsBody (s : Stmt) : List Stmt := match s with
  | .ClassDef _ _ _ b _ _ _ _ _ _ _ => b
  | _ => []
abbrev s_te_init : Stmt := (clsBody (topS 1)).getD 0 (.Pass ⟨0, 0, 0, 0⟩)
abbrev s_bl_init : Stmt := (clsBody (topS 2)).getD 0 (.Pass ⟨0, 0, 0, 0⟩)
theorem sc_te_init : FnScope ["self", "word", "place"] ["self", "word", "place"] (defScope s_te_init) := ⟨rfl, rfl, rfl, by decide +kernel, rfl, by decide +kernel, by decide +kernel⟩
theorem sc_bl_init : FnScope ["self", "place"] ["self", "place"] (defScope s_bl_init) := ⟨rfl, rfl, rfl, by decide +kernel, rfl, by decide +kernel, by decide +kernel⟩
abbrev DefD (K : PySem.W.Frag) (x qual : Str) (st : Stmt) (f : Addr) (fd : FuncData) : Prop := FunD K x qual (defArgs st) (defBody st) (defScope st) [V.non] [] f fd
section
variable {P : Program} {w : World} {K : PySem.W.Frag} {mg : Str → Option Value} {base : Heap} {t1 t2 t3 t4 t5 : Tok}
/-- what stands where the new exception's fields have been written -/
def Told (H H' : Hp) (a C : Addr) (y pl : V) : Prop := ∃ dx : Addr, H dx = none ∧ dx ≠ a ∧ H' a = some (exo a C (some dx)) ∧ H' dx = some (exd dx [("place", pl), ("word", y)]) ∧ ∀ b, b ≠ a → b ≠ dx → H' b = H b
structure OkC (K : PySem.W.Frag) (C : Addr) : Prop where
  ex : OexC K C
  wd : PySem.W.findIn K (.ref C) "word" = some none
  pl : PySem.W.findIn K (.ref C) "place" = some none
def spTE (K : PySem.W.Frag) : Sp := fun vs H Q _ => ∃ (a C : Addr) (y pl : V), vs = [.ref a, y, pl] ∧ OkC K C ∧ H a = some (exo a C none) ∧ ∀ H', Told H H' a C y pl → Q .non H'
def spBL (K : PySem.W.Frag) : Sp := fun vs H Q _ => ∃ (a C : Addr) (pl : V), vs = [.ref a, pl] ∧ OkC K C ∧ H a = some (exo a C none) ∧ ∀ H', Told H H' a C (.str "BadLine") pl → Q .non H'
theorem ok_te {f : Addr} {fd : FuncData} (F : DefD K "__init__" "TalkError.__init__" s_te_init f fd) : FnOk P w K mg base CX0 1 f fd ["self", "word", "place"] (spTE K) := by
  refine F.ok sc_te_init (fun vs H Q E h => ?_) (fun cdv A outer s H vs Q E hr h => ?_)
  · obtain ⟨a, C, y, pl, rfl, _⟩ := h
    rfl
  · obtain ⟨a, C, y, pl, rfl, oc, ea, q⟩ := h
    refine ⟨_, pss_cons (ps_ost (pv 0) (pv 1)) (pss_one (ps_ost (pv 0) (pv 2))), ?_⟩
    refine ⟨y, rfl, .ref a, rfl, a, C, rfl, oc.ex, oc.wd, .inl ⟨ea, fun dx nd ne => ?_⟩⟩
    have e1 : (upd (upd H dx (exd dx [("word", y)])) a (exo a C (some dx))) dx = some (exd dx [("word", y)]) := (upd_ne ne).trans upd_same
    refine ⟨pl, rfl, .ref a, rfl, a, C, rfl, oc.ex, oc.pl, .inr ⟨dx, [("word", y)], upd_same, e1, (by show 1 ≤ 900; decide), q _ ⟨dx, nd, ne, ?_, upd_same, fun b h1 h2 => ?_⟩⟩⟩
    · rw [upd_ne ne.symm, upd_same]
    · rw [upd_ne h2, upd_ne h1, upd_ne h2]
theorem ok_bl {f : Addr} {fd : FuncData} {CT fI : Addr} {fdT : FuncData} {mc : Value} (F : DefD K "__init__" "BadLine.__init__" s_bl_init f fd) (FT : FnOk P w K mg base CX0 1 fI fdT ["self", "word", "place"] (spTE K)) (bT : Binds K fdT ["self", "word", "place"] [])
    (gC : mg "TalkError" = some (.ref CT)) (ga : PySem.W.specialIn K (.ref CT) "__getattribute__" = some (some (.builtin "type.__getattribute__"))) (rd : PySem.W.readsIn K CT mc = true) (fc : PySem.W.findCls K (.ref CT) mc "__init__" = some (.val (.ref fI))) (kp : PySem.W.keepIn K (.ref fI) = true) :
    FnOk P w K mg base CX0 2 f fd ["self", "place"] (spBL K) := by
  refine F.ok sc_bl_init (fun vs H Q E h => ?_) (fun cdv A outer s H vs Q E hr h => ?_)
  · obtain ⟨a, C, pl, rfl, _⟩ := h
    rfl
  · obtain ⟨a, C, pl, rfl, oc, ea, q⟩ := h
    refine ⟨_, pss_one (ps_expr (pe_ownInit (E := E0) (by rfl) gC ga rd fc kp FT (hr.mono (by decide)) bT pass0 (pa_cons (pv 0) (pa_cons pe_str (pa_cons (pv 1) pa_nil))))), ?_⟩
    exact ⟨.ref a, rfl, pl, rfl, a, C, _, pl, rfl, oc, ea, fun H' h' => q H' h'⟩
/-- BadLine, as its raisers see it -/
structure Bad (P : Program) (w : World) (K : PySem.W.Frag) (mg : Str → Option Value) (base : Heap) (C : Addr) : Prop where
  oc : OkC K C
  mgC : mg "BadLine" = some (.ref C)
  ini : ∃ (fI : Addr) (fd : FuncData), PySem.W.findIn K (.ref C) "__init__" = some (some (.ref fI)) ∧ PySem.W.typeIn K (.ref fI) = some (.type "function") ∧ FnOk P w K mg base CX0 2 fI fd ["self", "place"] (spBL K) ∧ Binds K fd ["self", "place"] []
theorem pe_weak {X : Cx} {e : Expr} {te : TE} (he : PE X e te) : PE X e (fun σ H Q => ∃ R : VK, te σ H R ∧ ∀ v H1, R v H1 → Q v H1) :=
  ⟨fun pins s σ H Q I h => let ⟨_, h1, h2⟩ := h; thn (he.run pins s σ H _ I h1) fun _ _ ⟨v, H', I', r, q⟩ => ⟨v, H', I', r, h2 v H' q⟩⟩
abbrev badFs (pl : V) : List (Str × V) := [("place", pl), ("word", .str "BadLine")]
def tBad (C : Addr) (te : TE) (W : WX) : TS := fun _ σ H => te σ H fun pl H1 => ∀ d H', Same H1 H' → H' d = some (.xd (badFs pl)) → W (.ref C) (some d) σ H'
theorem ps_bad {X : Cx} {C : Addr} {e : Expr} {te : TE} {W : WX} {p pos pos' : Pos} (B : Bad X.prog X.w X.K X.mg X.base C) (hr : Room 3 X.A) (hc : X.calm = true) (tk : L2N.Takes X W) (hg : Gl X "BadLine") (he : PE X e te)
    (hs : starEach [e] X.env = (false, eval e X.env) :: starEach [] X.env := by rfl) (hpl : (backTo pos (starEach [] X.env)).any (·.1) = false := by rfl) : PS X (.Raise (some (.Call (.Name "BadLine" p) [e] [] pos)) none pos') (tBad C te W) := by
  obtain ⟨fI, fd, iC, tI, F1, hb⟩ := B.ini
  have r := L2N.ps_raise (pos := pos') hc tk (pmk_oexN (p := p) (pos := pos) B.oc.ex iC tI F1 hr hb pass0 hg B.mgC (pa_cons (pe_weak he) pa_nil hs) (by decide) hs hpl)
  refine ⟨fun pins s σ H D I h => r.run pins s σ H D I ?_⟩
  refine ⟨_, h, fun pl H1 k => ⟨(by show 1 ≤ 1000; decide), fun a na => ⟨a, C, pl, rfl, B.oc, upd_same, fun H2 ⟨dx, n, ne, ea, ed, un⟩ => ⟨rfl, dx, _, ea, ed, ?_, k dx _ (fun b o e => ?_) upd_same⟩⟩⟩⟩
  · rw [upd_ne ne] at n
    exact n
  · have hb : b ≠ a := ne_of_none e na
    rw [upd_ne ne] at n
    have hd : b ≠ dx := ne_of_none e n
    rw [upd_ne hd, del_ne hb, un b hb hd, upd_ne hb]
    exact e

/-! ### all([c in S for c in x]) -/
theorem pairs_signs {S : List Nat} : ∀ {l : List Nat} {ys : List V}, Paired (fun v y => ∃ c : Nat, v = V.str ⟨#[c]⟩ ∧ y = .bl (decide (c ∈ S))) (l.map fun c => V.str ⟨#[c]⟩) ys → ys = (l.map fun c => decide (c ∈ S)).map V.bl
  | [], _, .nil => rfl
  | a :: l, _, .cons r t => by
    obtain ⟨c, e1, e2⟩ := r
    have e : a = c := by
      have z := V.str.inj e1
      injection z with z
      have z2 : [a] = [c] := congrArg Array.toList z
      exact List.head_eq_of_cons_eq z2
    rw [pairs_signs t, e2, ← e]
    rfl
theorem lcAll {x S : Str} {slot : Nat} {vs : List Nat} {te : TE} {σ : L2.St} {H1 : Hp} {D : Addr} {Qd : Hp → Prop} (hD : H1 D = none) (hn : x.length ≤ 10000000)
    (step : ∀ (c : Nat) (H : Hp) (Q2 : VK), Q2 (.bl (decide (c ∈ S.cps.toList))) H → te ((wipe σ [slot]).set slot (some (.str ⟨#[c]⟩))) H Q2)
    (done : ∀ (bs : List Bool) (H' : Hp), bs.all id = onlyIn (tl S) x → Same H1 H' → H' D = some (.lst (bs.map V.bl)) → Qd H') (hv : vs = [slot] := by rfl) :
    ∃ W : Nat → Nat → Hp → Prop, (∃ m, W 0 m (upd H1 D (.lst []))) ∧ ∀ i m H, W i m H →
      ((Its x).stop i H ∧ Qd H) ∨ ((Its x).go i H ∧ ∃ Nx : Hp → Prop, (∀ H', Nx H' → ∃ m', m' < m ∧ W (i + 1) m' H') ∧ ∀ y H', (Its x).yld i H y H' → gName slot y (wipe σ vs) H' fun σ2 H2 => wipe σ2 vs = wipe σ vs ∧ tYes σ2 H2 fun b H3 =>
        if b = true then te σ2 H3 fun y H4 => ∃ acc, H4 D = some (.lst acc) ∧ acc.length < sizeLine ∧ Nx (upd H4 D (.lst (acc ++ [y]))) else Nx H3) := by
  refine lcR (xs := signs x) (R := fun v y => ∃ c : Nat, v = V.str ⟨#[c]⟩ ∧ y = .bl (decide (c ∈ tl S))) hD (by rw [signs_len]; exact hn) (goS x) (stS x) (yS x) (xS x) (fun i v H Q2 hi s k => ?_) (fun ys H' pr s hd => ?_) hv
  · obtain ⟨c, hc⟩ : ∃ c : Nat, v = .str ⟨#[c]⟩ := by
      unfold signs at hi
      rw [List.getElem?_map] at hi
      cases e : (TL.tl x)[i]? with
      | none => rw [e] at hi; cases hi
      | some c => rw [e] at hi; exact ⟨c, (Option.some.inj hi).symm⟩
    subst hc
    exact step c H Q2 (k _ H ⟨c, rfl, rfl⟩ (Same.refl _))
  · have e := pairs_signs (l := tl x) (S := tl S) pr
    refine done ((tl x).map fun c => decide (c ∈ tl S)) H' ?_ s (by rw [← e]; exact hd)
    unfold onlyIn
    rw [List.all_map]
    rfl

theorem ite_splitN {c A B : Prop} [Decidable c] (h1 : ¬ c → A) (h2 : c → B) : if (!decide c) = true then A else B := by
  by_cases h : c
  · rw [decide_eq_true h]
    exact iteF (h2 h)
  · rw [decide_eq_false h]
    exact iteT (h1 h)

/-! ### is_text -/
abbrev s_is_text : Stmt := topS 5
theorem sc_is_text : FnScope ["value", "char"] ["value"] (defScope s_is_text) := ⟨rfl, rfl, rfl, by decide +kernel, rfl, by decide +kernel, by decide +kernel⟩
def spOnly (S : List Nat) : Sp := fun vs H Q _ => ∃ x : Str, vs = [.str x] ∧ x.length ≤ 1000000 ∧ ∀ H', Same H H' → Q (.bl (onlyIn S x)) H'
theorem ok_is_text {f : Addr} {fd : FuncData} {k : Nat} (T : Txt mg t1 t2 t3 t4 t5) (F : Fun K "is_text" "is_text" s_is_text f fd) : FnOk P w K mg base CX0 (k + 1) f fd ["value"] (spOnly lets) := by
  refine F.ok sc_is_text (fun vs H Q E h => ?_) (fun cdv A outer s H vs Q E hr h => ?_)
  · obtain ⟨x, rfl, _⟩ := h
    rfl
  · obtain ⟨x, rfl, hx, q⟩ := h
    refine ⟨_, (pss_one (ps_ret (pe_and (pe_callB call_isi (by rfl) T.m_isinstance (by decide +kernel) (pa_cons (pv 0) (pa_cons (pe_bltn (v := .ty "str") (by rfl) T.m_str (by decide +kernel) rfl) pa_nil))) (pe_one (pe_callB (cr_all rfl) (by rfl) T.m_all (by decide +kernel) (pa_cons (pe_lc (own := [("char", 1)]) (g := gName 1) (by rfl) sc_is_text.nd (pi_str (pv 0)) (blkOk_by (own := [("char", 1)]) (N := ["value", "char"]) (sc := defScope s_is_text) (by decide +kernel))
      (fun _ _ _ _ _ => pg_name (i := 1) sc_is_text.nd rfl (.inl rfl)) (fun _ _ _ _ _ => pts_nil)
      (fun _ _ _ _ _ => (pe_cmpR op_in_sign (pv 1) (pe_glob (v := .str LET) (by rfl) T.g_LETTERS ⟨_, rfl⟩) rfl))) pa_nil)))))), ?_⟩
    refine ⟨_, rfl, .str x, .ty "str", .type "str", .type "str", true, rfl, .ty _, .base (.str x), kit_ty (by decide +kernel), true, rfl, iteT ?_⟩
    refine ⟨_, rfl, x, rfl, fun D hD => lcAll (S := LET) hD (by omega) (fun c H Q2 k => ⟨_, rfl, c, LET, rfl, rfl, k⟩) fun bs H' hb s hd => ⟨D, bs, rfl, SqL.of hd, ?_⟩⟩
    rw [hb]
    exact q H' s

/-! ### is_name -/
abbrev s_is_name : Stmt := topS 9
theorem sc_is_name : FnScope ["value", "letter"] ["value"] (defScope s_is_name) := ⟨rfl, rfl, rfl, by decide +kernel, rfl, by decide +kernel, by decide +kernel⟩
def spName : Sp := fun vs H Q _ => ∃ x : Str, vs = [.str x] ∧ x.length ≤ 1000000 ∧ ∀ H', Same H H' → Q (.bl (goodName x)) H'
theorem ok_is_name {f : Addr} {fd : FuncData} {k : Nat} (T : Txt mg t1 t2 t3 t4 t5) (F : Fun K "is_name" "is_name" s_is_name f fd) : FnOk P w K mg base CX0 (k + 1) f fd ["value"] spName := by
  refine F.ok sc_is_name (fun vs H Q E h => ?_) (fun cdv A outer s H vs Q E hr h => ?_)
  · obtain ⟨x, rfl, _⟩ := h
    rfl
  · obtain ⟨x, rfl, hx, q⟩ := h
    refine ⟨_, (pss_cons (ps_if (pw_or (pt_not (pt_val (pe_callB call_isi (by rfl) T.m_isinstance (by decide +kernel) (pa_cons (pv 0) (pa_cons (pe_bltn (v := .ty "str") (by rfl) T.m_str (by decide +kernel) rfl) pa_nil))))) (pw_or1 (pt_not (pt_chain op_le op_le pe_int (pe_callB call_len (by rfl) T.m_len (by decide +kernel) (pa_cons (pv 0) pa_nil)) (pe_glob (v := .int 12) (by rfl) T.g_NAME_MOST ⟨_, rfl⟩))))).pt (pss_one (ps_ret pe_bl))
      pss_nil)
    (pss_one (ps_ret (pe_callB (cr_all rfl) (by rfl) T.m_all (by decide +kernel) (pa_cons (pe_lc (own := [("letter", 1)]) (g := gName 1) (by rfl) sc_is_name.nd (pi_str (pv 0)) (blkOk_by (own := [("letter", 1)]) (N := ["value", "letter"]) (sc := defScope s_is_name) (by decide +kernel))
      (fun _ _ _ _ _ => pg_name (i := 1) sc_is_name.nd rfl (.inl rfl)) (fun _ _ _ _ _ => pts_nil)
      (fun _ _ _ _ _ => (pe_cmpR op_in_sign (pv 1) (pe_glob (v := .str LET) (by rfl) T.g_LETTERS ⟨_, rfl⟩) rfl))) pa_nil))))), ?_⟩
    have bad : ¬ (1 ≤ x.length ∧ x.length ≤ 12) → Q (.bl false) H := fun hn => by
      have hq := q H (Same.refl _)
      have e : goodName x = false := by
        unfold goodName
        by_cases h1 : 1 ≤ x.length
        · rw [decide_eq_false (fun h2 => hn ⟨h1, h2⟩)]
          simp
        · rw [decide_eq_false h1]
          simp
      rw [e] at hq
      exact hq
    refine ⟨_, rfl, .str x, .ty "str", .type "str", .type "str", true, rfl, .ty _, .base (.str x), kit_ty (by decide +kernel), true, rfl, iteF ?_⟩
    refine ⟨.str x, rfl, .str x, _, rfl, ⟨by rw [sizeLine_eq]; omega, rfl⟩, _, _, rfl, rfl, _, rfl, ite_split (fun e1 => ⟨_, _, rfl, rfl, _, rfl, ite_splitN (fun e2 => bad (by omega)) (fun e2 => ?_)⟩) (fun e1 => ⟨_, rfl, iteT (bad (by omega))⟩)⟩
    refine ⟨.str x, rfl, x, rfl, fun D hD => lcAll (S := LET) hD (by omega) (fun c H Q2 k => ⟨_, rfl, c, LET, rfl, rfl, k⟩) fun bs H' hb s hd => ⟨D, bs, rfl, SqL.of hd, ?_⟩⟩
    rw [hb]
    have hq := q H' s
    unfold goodName at hq
    rw [decide_eq_true (show 1 ≤ x.length by omega), decide_eq_true (show x.length ≤ 12 by omega)] at hq
    exact hq

/-! ### format_value -/
abbrev s_format_value : Stmt := topS 13
theorem sc_format_value : FnScope ["value"] ["value"] (defScope s_format_value) := ⟨rfl, rfl, rfl, by decide +kernel, rfl, by decide +kernel, by decide +kernel⟩
/-- a text that is not too long, a small int -/
def FOk (B : Nat) : V → Prop := fun v => (∃ t : Str, v = .str t ∧ t.length ≤ B) ∨ ∃ i : Int, v = .int i ∧ i.natAbs < 2 ^ 128
def spFV : Sp := fun vs H Q _ => ∃ v : V, vs = [v] ∧ FOk 1000000 v ∧ Q (.str (fmtV v)) H
theorem ok_format_value {f : Addr} {fd : FuncData} {k : Nat} (T : Txt mg t1 t2 t3 t4 t5) (F : Fun K "format_value" "format_value" s_format_value f fd) : FnOk P w K mg base CX0 (k + 1) f fd ["value"] spFV := by
  refine F.ok sc_format_value (fun vs H Q E h => ?_) (fun cdv A outer s H vs Q E hr h => ?_)
  · obtain ⟨v, rfl, _⟩ := h
    rfl
  · obtain ⟨v, rfl, hv, q⟩ := h
    refine ⟨_, (pss_cons (ps_if (pt_val (pe_callB call_isi (by rfl) T.m_isinstance (by decide +kernel) (pa_cons (pv 0) (pa_cons (pe_bltn (v := .ty "str") (by rfl) T.m_str (by decide +kernel) rfl) pa_nil)))) (pss_one (ps_ret (pe_op op_add_str pe_str (pv 0))))
      pss_nil)
    (pss_one (ps_ret (pe_op op_add_str pe_str (pe_callTy call_str_int (by rfl) T.m_str (by decide +kernel) (pa_cons (pv 0) pa_nil)))))), ?_⟩
    rcases hv with ⟨t, rfl, ht⟩ | ⟨i, rfl, hi⟩
    · have e1 : EQ1.length = 1 := by decide +kernel
      refine ⟨_, rfl, .str t, .ty "str", .type "str", .type "str", true, rfl, .ty _, .base (.str t), kit_ty (by decide +kernel), true, rfl, iteT ⟨_, rfl, EQ1, t, rfl, rfl, by rw [e1, sizeLine_eq]; omega, q⟩⟩
    · have hs : (Str.ofString (toString i)).length ≤ 40 := by
        rw [TL.len_tl, show TL.tl (Str.ofString (toString i)) = numI i from tl_toString i]
        exact numI_len hi
      have e1 : HS1.length = 1 := by decide +kernel
      refine ⟨_, rfl, .int i, .ty "str", .type "int", .type "str", false, rfl, .ty _, .base (.int i), kit_ty (by decide +kernel), false, rfl, iteF ⟨_, rfl, i, rfl, log2_small hi, HS1, Str.ofString (toString i), rfl, rfl, by rw [e1, sizeLine_eq]; omega, q⟩⟩

/-! ### format_request -/
abbrev s_format_request : Stmt := topS 14
theorem sc_format_request : FnScope ["request", "words", "values", "value"] ["request"] (defScope s_format_request) := ⟨rfl, rfl, rfl, by decide +kernel, rfl, by decide +kernel, by decide +kernel⟩
def fmtW : List V → List Str
  | .str x :: r => x :: r.map fmtV
  | v :: .str n :: r => fmtV v :: n :: r.map fmtV
  | _ => []
theorem fmt_map : ∀ {vs : List Str}, vs.all goodValue = true → (vs.map valOf).map fmtV = vs
  | [], _ => rfl
  | a :: r, h => by
    rw [List.all_cons, Bool.and_eq_true] at h
    rw [List.map_cons, List.map_cons, fmt_back h.1, fmt_map h.2]
theorem goodId_val {w : Str} (h : goodId w = true) : valOf w = .int (numOf (cut1 w)) ∧ (numOf (cut1 w)).natAbs < 2 ^ 128 ∧ goodValue w = true := by
  have h0 := h
  unfold goodId at h
  simp only [Bool.and_eq_true, decide_eq_true_eq] at h
  refine ⟨?_, numOf_small h.2, ?_⟩
  · unfold valOf
    rw [if_pos h.1]
  · unfold goodValue
    rw [if_neg (by rw [h.1]; decide)]
    exact h0
theorem val_ok {w : Str} (h : goodValue w = true) : FOk w.length (valOf w) := by
  have h0 := h
  unfold goodValue at h
  by_cases h1 : (tl w).head? = some 61
  · refine .inl ⟨cut1 w, ?_, cut1_len w⟩
    unfold valOf
    rw [if_neg (by rw [h1]; decide)]
  · rw [if_neg h1] at h
    have g := goodId_val h
    exact .inr ⟨_, g.1, g.2.1⟩
theorem FOk.le {B C : Nat} {v : V} (h : FOk B v) (k : B ≤ C) : FOk C v := by
  rcases h with ⟨t, e, l⟩ | h
  · exact .inl ⟨t, e, Nat.le_trans l k⟩
  · exact .inr h
/-- a good line: a first word or two, and the values behind them -/
theorem good_cases {ws : List Str} (h : goodLine ws = true) : (∃ vs, ws = NEW1 :: vs ∧ reqOf ws = .str NEW1 :: vs.map valOf ∧ vs.length ≤ 3 ∧ vs.all goodValue = true) ∨
    ∃ w0 w1 vs, ws = w0 :: w1 :: vs ∧ reqOf ws = valOf w0 :: .str w1 :: vs.map valOf ∧ w0 ≠ NEW1 ∧ goodId w0 = true ∧ w1 ≠ NEW1 ∧ goodName w1 = true ∧ vs.length ≤ 3 ∧ vs.all goodValue = true := by
  cases ws with
  | nil => cases h
  | cons w0 r =>
    by_cases h0 : w0 = NEW1
    · replace h : (decide (r.length ≤ 3) && r.all goodValue) = true := (if_pos h0).symm.trans h
      simp only [Bool.and_eq_true, decide_eq_true_eq] at h
      exact .inl ⟨r, by rw [h0], if_pos h0, h.1, h.2⟩
    · cases r with
      | nil => exact nomatch (if_neg h0).symm.trans h
      | cons w1 vs =>
        replace h : (goodId w0 && !decide (w1 = NEW1) && goodName w1 && (decide (vs.length ≤ 3) && vs.all goodValue)) = true := (if_neg h0).symm.trans h
        simp only [Bool.and_eq_true, Bool.not_eq_true', decide_eq_true_eq, decide_eq_false_iff_not] at h
        exact .inr ⟨w0, w1, vs, rfl, if_neg h0, h0, h.1.1.1, h.1.1.2, h.1.2, h.2.1, h.2.2⟩
theorem fmtW_req {ws : List Str} (h : goodLine ws = true) : fmtW (reqOf ws) = ws := by
  rcases good_cases h with ⟨vs, e, e2, _, a⟩ | ⟨w0, w1, vs, e, e2, _, g, _, _, _, a⟩
  · rw [e2, e]
    show NEW1 :: (vs.map valOf).map fmtV = _
    rw [fmt_map a]
  · have v0 := (goodId_val g)
    have b0 := fmt_back v0.2.2
    rw [e2, e]
    rw [v0.1] at b0 ⊢
    show fmtV (.int _) :: w1 :: (vs.map valOf).map fmtV = _
    rw [fmt_map a, b0]
def spFR : Sp := fun vs H Q _ => ∃ (a : Addr) (ws : List Str), vs = [.ref a] ∧ H a = some (.tup (reqOf ws)) ∧ goodLine ws = true ∧ (ws.map (·.length)).sum ≤ 1000000 ∧ ∀ H', Same H H' → Q (.str (Txt.join SP1 ws)) H'
theorem ok_format_request {f : Addr} {fd : FuncData} (T : Txt mg t1 t2 t3 t4 t5) (F : Fun K "format_request" "format_request" s_format_request f fd) (C_format_value : Cal P w K mg base CX0 1 "format_value" ["value"] spFV) : FnOk P w K mg base CX0 2 f fd ["request"] spFR := by
  refine F.ok sc_format_request (fun vs H Q E h => ?_) (fun cdv A outer s H vs Q E hr h => ?_)
  · obtain ⟨a, ws, rfl, _⟩ := h
    rfl
  · obtain ⟨a, ws, rfl, ha, good, hsum, q⟩ := h
    refine ⟨_, (pss_consM (ps_if (pt_cmpR op_eq (pe_ix ix_tup (pv 0) pe_int (fun _ _ => rfl)) pe_str (nomark _)) (pss_cons (ps_set (i := 1) sc_format_request.nd rfl (.inl rfl) (pe_lst (pa_cons pe_str pa_nil)))
    (pss_one (ps_set (i := 2) sc_format_request.nd rfl (.inl rfl) (pe_slice sl_tup (pv 0) (po_some pe_int) po_none))))
      (pss_cons (ps_set (i := 1) sc_format_request.nd rfl (.inl rfl) (pe_lst (pa_cons (pe_cal C_format_value (hr.mono (by decide)) (by rfl) pass0 (pa_cons (pe_ix ix_tup (pv 0) pe_int (fun _ _ => rfl)) pa_nil)) (pa_cons (pe_ix ix_tup (pv 0) pe_int (fun _ _ => rfl)) pa_nil))))
    (pss_one (ps_set (i := 2) sc_format_request.nd rfl (.inl rfl) (pe_slice sl_tup (pv 0) (po_some pe_int) po_none)))))
    (pss_one (ps_ret (pe_join pe_str (pe_op op_cat (pv 1) (pe_lc (own := [("value", 3)]) (g := gName 3) (by rfl) sc_format_request.nd (pi_tup (pv 2)) (blkOk_by (own := [("value", 3)]) (N := ["request", "words", "values", "value"]) (sc := defScope s_format_request) (by decide +kernel))
      (fun _ _ _ _ _ => pg_name (i := 3) sc_format_request.nd rfl (.inl rfl)) (fun _ _ _ _ _ => pts_nil)
      (fun _ _ _ _ _ => (pe_cal C_format_value (hr.mono (by decide)) (by rfl) pass0 (pa_cons (pv 3) pa_nil))))))))), ?_⟩
    have s1 : SP1.length = 1 := by decide +kernel
    refine ⟨fun σ' H' => ∃ (L t : Addr) (hd vs : List Str), σ' = [some (.ref a), some (.ref L), some (.ref t), none] ∧ Same H H' ∧ H' L = some (.lst (hd.map V.str)) ∧ H' t = some (.tup (vs.map valOf)) ∧ ws = hd ++ vs ∧ hd.length ≤ 2 ∧ vs.length ≤ 3 ∧ vs.all goodValue = true, ?_, ?_⟩
    · rcases good_cases good with ⟨vs, e, e2, lv, av⟩ | ⟨w0, w1, vs, e, e2, n0, g0, n1, g1, lv, av⟩
      · rw [e2] at ha
        refine ⟨_, rfl, a, _, 0, .str NEW1, rfl, rfl, SqT.of ha, atI_nat (j := 0) rfl, rfl, _, rfl, ite_split (fun _ => ?_) (fun e => absurd rfl e)⟩
        refine ⟨by show 1 ≤ sizeLine; decide, fun c nc => ?_⟩
        refine ⟨.ref a, rfl, 1, rfl, a, _, rfl, SqT.of ((upd_ne (ne_of_none ha nc)).trans ha), not_whole (k := 1) (by decide) (by simp), fun t nt => ?_⟩
        rw [show cutV (V.str NEW1 :: vs.map valOf) (some 1) none = vs.map valOf from cut_from _ 1]
        exact ⟨c, t, [NEW1], vs, rfl, (same_upd nc).trans (same_upd nt), (upd_ne (ne_of_none upd_same nt)).trans upd_same, upd_same, e, by decide, lv, av⟩
      · have v0 := goodId_val g0
        have b0 := fmt_back v0.2.2
        rw [e2] at ha
        rw [v0.1] at ha b0
        refine ⟨_, rfl, a, _, 0, .int (numOf (cut1 w0)), rfl, rfl, SqT.of ha, atI_nat (j := 0) rfl, rfl, _, rfl, ite_split (fun e => by cases e) (fun e3 => ?_)⟩
        refine ⟨_, rfl, a, _, 0, .int (numOf (cut1 w0)), rfl, rfl, SqT.of ha, atI_nat (j := 0) rfl, .int (numOf (cut1 w0)), rfl, .inr ⟨_, rfl, v0.2.1⟩, ?_⟩
        rw [b0]
        refine ⟨_, rfl, a, _, 1, .str w1, rfl, rfl, SqT.of ha, atI_nat (j := 1) rfl, by show 2 ≤ sizeLine; decide, fun c nc => ?_⟩
        refine ⟨.ref a, rfl, 2, rfl, a, _, rfl, SqT.of ((upd_ne (ne_of_none ha nc)).trans ha), not_whole (k := 2) (by decide) (by simp), fun t nt => ?_⟩
        rw [show cutV (V.int (numOf (cut1 w0)) :: V.str w1 :: vs.map valOf) (some 2) none = vs.map valOf from cut_from _ 2]
        exact ⟨c, t, [w0, w1], vs, rfl, (same_upd nc).trans (same_upd nt), (upd_ne (ne_of_none upd_same nt)).trans upd_same, upd_same, e, Nat.le_refl 2, lv, av⟩
    · rintro σ' H' ⟨L, t, hd, vs, rfl, s5, eL, et, ew, lh, lv, av⟩
      have ll : ∀ w ∈ vs, w.length ≤ 1000000 := fun w hw => Nat.le_trans (le_sum (l := ws) (by rw [ew]; exact List.mem_append_right _ hw)) hsum
      have sT : SqT K H' t (vs.map valOf) := SqT.of et
      refine ⟨⟨_, rfl⟩, .ref L, rfl, .ref t, rfl, t, rfl, ⟨_, sT⟩, fun D hD => lcR (xs := vs.map valOf) (R := fun v y => y = .str (fmtV v)) hD (by rw [List.length_map]; omega) (goT sT) (stT sT) yT (xT sT) (fun i x H4 Q2 hi4 s4 k => ?_) fun ys H4 pr s4 hd4 => ?_⟩
      · obtain ⟨w, hw, rfl⟩ : ∃ w ∈ vs, x = valOf w := by
          obtain ⟨w, hw, e⟩ := List.mem_map.mp (List.mem_of_getElem? hi4)
          exact ⟨w, hw, e.symm⟩
        exact ⟨_, rfl, _, rfl, (val_ok (List.all_eq_true.mp av w hw)).le (ll w hw), k _ H4 rfl (Same.refl _)⟩
      · have ey : ys = vs.map V.str := by
          have e1 := paired_map (f := fun v => V.str (fmtV v)) pr
          rw [e1]
          have e2 : (vs.map valOf).map (fun v => V.str (fmtV v)) = ((vs.map valOf).map fmtV).map V.str := by simp only [List.map_map]; rfl
          rw [e2, fmt_map av]
        rw [ey] at hd4
        have eL4 : H4 L = some (.lst (hd.map V.str)) := s4 _ _ eL
        refine ⟨L, D, _, _, rfl, rfl, eL4, hd4, by rw [sizeLine_eq, List.length_map, List.length_map]; omega, fun L2 nL2 => ?_⟩
        rw [show hd.map V.str ++ vs.map V.str = ws.map V.str by rw [ew, List.map_append]]
        refine ⟨SP1, L2, ws, rfl, rfl, .inl (SqL.of upd_same), ?_, q _ (Same.upd_new (s5.trans s4) nL2)⟩
        rw [s1, ew, List.length_append]
        rw [ew] at hsum
        omega

/-! ### format_talk -/
abbrev s_format_talk : Stmt := topS 15
theorem sc_format_talk : FnScope ["talk", "request"] ["talk"] (defScope s_format_talk) := ⟨rfl, rfl, rfl, by decide +kernel, rfl, by decide +kernel, by decide +kernel⟩
/-- lines that are good, in this heap -/
def LinesAt (H : Hp) (as : List Addr) (wss : List (List Str)) : Prop := Paired (fun a ws => H a = some (.tup (reqOf ws)) ∧ goodLine ws = true ∧ (ws.map (·.length)).sum ≤ 1000000) as wss
def spFT : Sp := fun vs H Q _ => ∃ (a : Addr) (as : List Addr) (wss : List (List Str)), vs = [.ref a] ∧ H a = some (.lst (as.map V.ref)) ∧ LinesAt H as wss ∧ as.length ≤ 1000000 ∧ ((wss.map (Txt.join SP1)).map (·.length)).sum ≤ 1000000 ∧
  ∀ H', Same H H' → Q (.str (Txt.join NL1 (wss.map (Txt.join SP1)))) H'
theorem LinesAt.get {H : Hp} : ∀ {as : List Addr} {wss : List (List Str)} {i : Nat} {a : Addr}, LinesAt H as wss → as[i]? = some a → ∃ ws, H a = some (.tup (reqOf ws)) ∧ goodLine ws = true ∧ (ws.map (·.length)).sum ≤ 1000000
  | [], _, i, a, _, h => by simp at h
  | b :: r, _, 0, a, .cons p t, h => by
    have e : b = a := by simpa using h
    rw [← e]
    exact ⟨_, p⟩
  | b :: r, _, i + 1, a, .cons p t, h => LinesAt.get t (by simpa using h)
theorem LinesAt.out {H : Hp} : ∀ {as : List Addr} {wss : List (List Str)} {ys : List V}, LinesAt H as wss → Paired (fun v y => ∃ (a : Addr) (xs : List V), v = V.ref a ∧ H a = some (.tup xs) ∧ y = .str (Txt.join SP1 (fmtW xs))) (as.map V.ref) ys → ys = (wss.map (Txt.join SP1)).map V.str
  | _, _, _, .nil, .nil => rfl
  | _, _, _, .cons p t, .cons r u => by
    obtain ⟨a, xs, e1, e2, e3⟩ := r
    cases e1
    rw [p.1] at e2
    cases e2
    rw [LinesAt.out t u, e3, fmtW_req p.2.1]
    rfl
theorem ok_format_talk {f : Addr} {fd : FuncData} (T : Txt mg t1 t2 t3 t4 t5) (F : Fun K "format_talk" "format_talk" s_format_talk f fd) (C_format_request : Cal P w K mg base CX0 2 "format_request" ["request"] spFR) : FnOk P w K mg base CX0 3 f fd ["talk"] spFT := by
  refine F.ok sc_format_talk (fun vs H Q E h => ?_) (fun cdv A outer s H vs Q E hr h => ?_)
  · obtain ⟨a, as, wss, rfl, _⟩ := h
    rfl
  · obtain ⟨a, as, wss, rfl, ha, hl, hn, hsum, q⟩ := h
    refine ⟨_, (pss_one (ps_ret (pe_join pe_str (pe_lc (own := [("request", 1)]) (g := gName 1) (by rfl) sc_format_talk.nd (pi_list (pv 0)) (blkOk_by (own := [("request", 1)]) (N := ["talk", "request"]) (sc := defScope s_format_talk) (by decide +kernel))
      (fun _ _ _ _ _ => pg_name (i := 1) sc_format_talk.nd rfl (.inl rfl)) (fun _ _ _ _ _ => pts_nil)
      (fun _ _ _ _ _ => (pe_cal C_format_request (hr.mono (by decide)) (by rfl) pass0 (pa_cons (pv 1) pa_nil))))))), ?_⟩
    have s1 : NL1.length = 1 := by decide +kernel
    have sq : SqL K H a (as.map V.ref) := SqL.of ha
    refine ⟨⟨_, rfl⟩, .ref a, rfl, a, rfl, ⟨_, sq⟩, fun D hD => lcR (xs := as.map V.ref) (R := fun v y => ∃ (a : Addr) (xs : List V), v = V.ref a ∧ H a = some (.tup xs) ∧ y = .str (Txt.join SP1 (fmtW xs))) hD (by rw [List.length_map]; omega) (goL sq) (stL sq) yL (xL sq) (fun i x H4 Q2 hi4 s4 k => ?_) fun ys H4 pr s4 hd4 => ?_⟩
    · rw [List.getElem?_map] at hi4
      cases e : as[i]? with
      | none => rw [e] at hi4; cases hi4
      | some b =>
        rw [e] at hi4
        cases (show some (V.ref b) = some x from hi4)
        obtain ⟨ws, hw, good, hs⟩ := hl.get e
        exact ⟨_, rfl, b, ws, rfl, s4 _ _ hw, good, hs, fun H' s' => k _ H' ⟨b, _, rfl, hw, by rw [fmtW_req good]⟩ s'⟩
    · rw [hl.out pr] at hd4
      refine ⟨NL1, D, wss.map (Txt.join SP1), rfl, rfl, .inl (SqL.of hd4), ?_, q H4 s4⟩
      have e := Paired.length hl
      rw [s1, List.length_map]
      omega
end
end TK

/-! TP2: parse_id, parse_value, parse_request, parse_talk. -/
namespace TK
open PySem PySem.Spec PyProof.Rows L2
section
variable {P : Program} {w : World} {K : PySem.W.Frag} {mg : Str → Option Value} {base : Heap} {t1 t2 t3 t4 t5 : Tok} {CB : Addr}
/-- BadLine(pl) is let out -/
def BadE (C : Addr) (E : XK) (pl : V) (H : Hp) : Prop := ∀ d H', Same H H' → H' d = some (.xd (badFs pl)) → E (.ref C) (some d) H'
theorem BadE.on {C : Addr} {E : XK} {pl : V} {H H1 : Hp} (b : BadE C E pl H) (s : Same H H1) : BadE C E pl H1 := fun d H' s' e => b d H' (s.trans s') e

/-! ### parse_id -/
abbrev s_parse_id : Stmt := topS 16
theorem sc_parse_id : FnScope ["text", "place", "digits", "digit"] ["text", "place"] (defScope s_parse_id) := ⟨rfl, rfl, rfl, by decide +kernel, rfl, by decide +kernel, by decide +kernel⟩
def spPID (C : Addr) : Sp := fun vs H Q E => ∃ (x : Str) (pl : V), vs = [.str x, pl] ∧ x.length ≤ 1000000 ∧ (goodNum x = true → ∀ H', Same H H' → Q (.int (numOf x)) H') ∧ (goodNum x = false → BadE C E pl H)
theorem ok_parse_id {f : Addr} {fd : FuncData} (T : Txt mg t1 t2 t3 t4 t5) (B : Bad P w K mg base CB) (F : Fun K "parse_id" "parse_id" s_parse_id f fd) : FnOk P w K mg base (L2N.CX P w) 4 f fd ["text", "place"] (spPID CB) := by
  refine okG F sc_parse_id (fun vs H Q E h => ?_) (fun cdv A outer s H vs Q E hr h => ?_)
  · obtain ⟨x, pl, rfl, _⟩ := h
    rfl
  · obtain ⟨x, pl, rfl, hx, good, bad⟩ := h
    have tk : L2N.Takes (cxOf (L2N.CX P w) P w K mg base ["text", "place", "digits", "digit"] "parse_id" (defScope s_parse_id) f cdv A outer s H E) (fun cls d _ H => E cls d H) := L2N.takes_of rfl rfl rfl rfl
    refine ⟨_, (pss_cons (ps_set (i := 2) sc_parse_id.nd rfl (.inl rfl) (pv 0))
    (pss_consM (ps_if (pt_val (pe_m1 PySem.F.slot_str_startswith PySem.F.type_str_startswith mt_startswith (pv 0) pe_str)) (pss_one (ps_set (i := 2) sc_parse_id.nd rfl (.inl rfl) (pe_slice sl_str (pv 0) (po_some pe_int) po_none)))
      pss_nil)
    (pss_cons (ps_if (pw_or (pt_not (pt_chain op_le op_le pe_int (pe_callB call_len (by rfl) T.m_len (by decide +kernel) (pa_cons (pv 2) pa_nil)) (pe_glob (v := .int 30) (by rfl) T.g_DIGITS_MOST ⟨_, rfl⟩))) (pw_or1 (pt_not (pt_val (pe_callB (cr_all rfl) (by rfl) T.m_all (by decide +kernel) (pa_cons (pe_lc (own := [("digit", 3)]) (g := gName 3) (by rfl) sc_parse_id.nd (pi_str (pv 2)) (blkOk_by (own := [("digit", 3)]) (N := ["text", "place", "digits", "digit"]) (sc := defScope s_parse_id) (by decide +kernel))
      (fun _ _ _ _ _ => pg_name (i := 3) sc_parse_id.nd rfl (.inl rfl)) (fun _ _ _ _ _ => pts_nil)
      (fun _ _ _ _ _ => (pe_cmpR op_in_sign (pv 3) (pe_glob (v := .str DIG) (by rfl) T.g_DIGITS ⟨_, rfl⟩) rfl))) pa_nil)))))).pt (pss_one (ps_bad B (hr.mono (by decide)) rfl tk (by rfl) (pv 1)))
      pss_nil)
    (pss_cons (ps_if (pw_and (pt_cmpR op_eq (pe_ix ix_str (pv 2) pe_int (fun _ _ => rfl)) pe_str (nomark _)) (pw_and1 (pt_cmpR op_ne (pv 0) pe_str (nomark _)))).pt (pss_one (ps_bad B (hr.mono (by decide)) rfl tk (by rfl) (pv 1)))
      pss_nil)
    (pss_cons (ps_if (pt_cmpR op_ne (pv 2) (pv 0) (nomark _)) (pss_one (ps_ret (pe_un un_neg (pe_callTy call_int_str (by rfl) T.m_int (by decide +kernel) (pa_cons (pv 2) pa_nil)))))
      pss_nil)
    (pss_one (ps_ret (pe_callTy call_int_str (by rfl) T.m_int (by decide +kernel) (pa_cons (pv 2) pa_nil))))))))), ?_⟩
    have xs1 : x.length ≤ sizeLine := by rw [sizeLine_eq]; omega
    refine ⟨.str x, rfl, fun σ' H' => σ' = [some (.str x), some pl, some (.str (stripM x)), none] ∧ H' = H, ?_, ?_⟩
    · refine ⟨.str x, rfl, ⟨_, rfl⟩, x, _, rfl, rfl, _, rfl, ?_⟩
      have es := starts_is (x := x) (y := "-") (c := 45) (by decide +kernel)
      rw [es]
      refine ite_split (fun e => ?_) (fun e => ?_)
      · refine ⟨.str x, rfl, 1, rfl, x, rfl, xs1, ?_, rfl⟩
        rw [show stripM x = cut1 x from if_pos e]
        rfl
      · rw [show stripM x = x from if_neg e]
        exact ⟨rfl, rfl⟩
    · rintro σ' H' ⟨rfl, rfl⟩
      have ls : (stripM x).length ≤ x.length := by
        unfold stripM
        split
        · exact cut1_len x
        · exact Nat.le_refl _
      have gdef : goodNum x = (decide (1 ≤ (stripM x).length) && decide ((stripM x).length ≤ 30) && onlyIn digs (stripM x) && (decide ((tl (stripM x)).head? ≠ some 48) || decide (x = Z1))) := rfl
      generalize hz : stripM x = z at ls gdef
      have zs1 : z.length ≤ sizeLine := Nat.le_trans ls xs1
      refine ⟨.str z, rfl, .str z, _, rfl, ⟨zs1, rfl⟩, _, _, rfl, rfl, _, rfl, ite_split (fun e1 => ⟨_, _, rfl, rfl, _, rfl, ite_splitN (fun e2 => iteT ⟨pl, rfl, ?_⟩) (fun e2 => ?_)⟩) (fun e1 => ⟨_, rfl, iteT (iteT ⟨pl, rfl, ?_⟩)⟩)⟩
      · refine bad ?_
        rw [gdef, decide_eq_false (show ¬ z.length ≤ 30 by omega)]
        simp
      · refine ⟨.str z, rfl, z, rfl, fun D hD => lcAll (S := DIG) hD (by omega) (fun c H Q2 k => ⟨_, rfl, c, DIG, rfl, rfl, k⟩) fun bs H1 hb s hd => ⟨D, bs, rfl, SqL.of hd, _, rfl, ?_⟩⟩
        rw [hb, show tl DIG = digs from rfl]
        cases ho : onlyIn digs z with
        | false =>
          refine iteT ⟨pl, rfl, BadE.on (bad ?_) s⟩
          rw [gdef, ho]
          simp
        | true =>
          refine iteF ?_
          have hdg := only_digs ho
          obtain ⟨c, r, hc⟩ : ∃ c r, tl z = c :: r := by
            cases e : tl z with
            | nil =>
              have l : z.length = 0 := by rw [TL.len_tl, show TL.tl z = [] from e]; rfl
              omega
            | cons c r => exact ⟨c, r, rfl⟩
          have gd2 : goodNum x = (decide (c ≠ 48) || decide (x = Z1)) := by
            rw [gdef, ho, hc, decide_eq_true (show 1 ≤ z.length by omega), decide_eq_true (show z.length ≤ 30 by omega)]
            simp
          have c48 : V.str (⟨#[c]⟩ : Str) = V.str (Str.ofString "0") ↔ c = 48 := by
            have e0 : (Str.ofString "0") = (⟨#[48]⟩ : Str) := by decide +kernel
            rw [e0]
            constructor
            · intro e
              injection e with e
              injection e with e
              have e2 : [c] = [48] := congrArg Array.toList e
              exact List.head_eq_of_cons_eq e2
            · intro e
              rw [e]
          -- what is left: the number
          have fin : goodNum x = true → (V.str z = V.str x → Q (.int ((NumText.digitsVal (tl z) : Nat) : Int)) H1) ∧ (¬ V.str z = V.str x → Q (.int (-((NumText.digitsVal (tl z) : Nat) : Int))) H1) := fun g => by
            have hq := good g H1 s
            unfold numOf at hq
            unfold stripM at hz
            by_cases hm : (tl x).head? = some 45
            · rw [if_pos hm] at hz hq
              rw [hz] at hq
              refine ⟨fun e => ?_, fun _ => hq⟩
              injection e with e
              have l1 : (tl x).length = 1 + (tl z).length := by
                rw [cons_cut hm, hz, List.length_cons, Nat.add_comm]
              rw [e] at l1
              omega
            · rw [if_neg hm] at hz hq
              rw [hz] at hq
              exact ⟨fun _ => hq, fun e => absurd (by rw [hz]) e⟩
          have hint := int_digs hdg (by rw [hc]; exact List.cons_ne_nil _ _) (show z.length ≤ 30 by omega)
          have hc0 : z.cps.toList[0]? = some c := by
            show (tl z)[0]? = some c
            rw [hc]
            rfl
          refine ⟨.str z, rfl, z, 0, c, rfl, rfl, zs1, atI_nat (j := 0) hc0, rfl, _, rfl, ite_split (fun e3 => ⟨.str x, rfl, rfl, _, rfl, ite_splitN (fun e4 => ⟨pl, rfl, BadE.on (bad ?_) s⟩) (fun e4 => ?_)⟩) (fun e3 => iteF ?_)⟩
          · rw [gd2, decide_eq_false (fun n => n (c48.mp e3)), decide_eq_false (fun e => e4 (by rw [e]; rfl))]
            rfl
          · have g : goodNum x = true := by
              injection e4 with e4
              rw [gd2, decide_eq_true (show x = Z1 from e4)]
              simp
            exact ⟨.str z, rfl, .str x, rfl, rfl, _, rfl, ite_splitN (fun ne => ⟨.str z, rfl, z, _, rfl, hint, by omega, _, rfl, (fin g).2 ne⟩) (fun eq => ⟨.str z, rfl, z, _, rfl, hint, by omega, (fin g).1 eq⟩)⟩
          · have g : goodNum x = true := by
              rw [gd2, decide_eq_true (show c ≠ 48 from fun e => e3 (c48.mpr e))]
              rfl
            exact ⟨.str z, rfl, .str x, rfl, rfl, _, rfl, ite_splitN (fun ne => ⟨.str z, rfl, z, _, rfl, hint, by omega, _, rfl, (fin g).2 ne⟩) (fun eq => ⟨.str z, rfl, z, _, rfl, hint, by omega, (fin g).1 eq⟩)⟩
      · refine bad ?_
        rw [gdef, decide_eq_false (show ¬ 1 ≤ z.length by omega)]
        simp

/-! ### parse_value -/
abbrev s_parse_value : Stmt := topS 17
theorem sc_parse_value : FnScope ["text", "place"] ["text", "place"] (defScope s_parse_value) := ⟨rfl, rfl, rfl, by decide +kernel, rfl, by decide +kernel, by decide +kernel⟩
def spPV (C : Addr) : Sp := fun vs H Q E => ∃ (x : Str) (pl : V), vs = [.str x, pl] ∧ x.length ≤ 1000000 ∧ (goodValue x = true → ∀ H', Same H H' → Q (valOf x) H') ∧ (goodValue x = false → BadE C E pl H)
theorem ok_parse_value {f : Addr} {fd : FuncData} (T : Txt mg t1 t2 t3 t4 t5) (B : Bad P w K mg base CB) (F : DefD K "parse_value" "parse_value" s_parse_value f fd) (C_parse_id : Cal P w K mg base (L2N.CX P w) 4 "parse_id" ["text", "place"] (spPID CB))
    (C_is_text : Cal P w K mg base CX0 1 "is_text" ["value"] (spOnly lets)) : FnOk P w K mg base (L2N.CX P w) 5 f fd ["text", "place"] (spPV CB) := by
  refine F.ok sc_parse_value (fun vs H Q E h => ?_) (fun cdv A outer s H vs Q E hr h => ?_)
  · obtain ⟨x, pl, rfl, _⟩ := h
    rfl
  · obtain ⟨x, pl, rfl, hx, good, bad⟩ := h
    have tk : L2N.Takes (cxOf (L2N.CX P w) P w K mg base ["text", "place"] "parse_value" (defScope s_parse_value) f cdv A outer s H E) (fun cls d _ H => E cls d H) := L2N.takes_of rfl rfl rfl rfl
    refine ⟨_, (pss_cons (ps_if (pt_val (pe_m1 PySem.F.slot_str_startswith PySem.F.type_str_startswith mt_startswith (pv 0) pe_str)) (pss_one (ps_ret (pe_cal C_parse_id (hr.mono (by decide)) (by rfl) (L2N.passes_call tk (fun _ _ _ _ h => h)) (pa_cons (pe_slice sl_str (pv 0) (po_some pe_int) po_none) (pa_cons (pv 1) pa_nil)))))
      pss_nil)
    (pss_cons (ps_if (pw_or (pt_not (pt_val (pe_m1 PySem.F.slot_str_startswith PySem.F.type_str_startswith mt_startswith (pv 0) pe_str))) (pw_or1 (pt_not (pt_val (pe_cal C_is_text (hr.mono (by decide)) (by rfl) pass0 (pa_cons (pe_slice sl_str (pv 0) (po_some pe_int) po_none) pa_nil)))))).pt (pss_one (ps_bad B (hr.mono (by decide)) rfl tk (by rfl) (pv 1)))
      pss_nil)
    (pss_one (ps_ret (pe_slice sl_str (pv 0) (po_some pe_int) po_none))))), ?_⟩
    have xs1 : x.length ≤ sizeLine := by rw [sizeLine_eq]; omega
    have l1 := cut1_len x
    refine ⟨.str x, rfl, ⟨_, rfl⟩, x, _, rfl, rfl, _, rfl, ?_⟩
    rw [starts_is (x := x) (y := "#") (c := 35) (by decide +kernel)]
    refine ite_split (fun e => ?_) (fun e => ?_)
    · have n61 : ¬ (tl x).head? = some 61 := by rw [e]; decide
      have g : goodValue x = goodNum (cut1 x) := by
        unfold goodValue goodId
        rw [if_neg n61, decide_eq_true e]
        rfl
      have v : valOf x = .int (numOf (cut1 x)) := if_pos e
      rw [g, v] at good
      rw [g] at bad
      exact ⟨.str x, rfl, 1, rfl, x, rfl, xs1, pl, rfl, cut1 x, pl, rfl, by omega, good, bad⟩
    · have v : valOf x = .str (cut1 x) := if_neg e
      rw [v] at good
      refine ⟨.str x, rfl, ⟨_, rfl⟩, x, _, rfl, rfl, _, rfl, ?_⟩
      rw [starts_is (x := x) (y := "=") (c := 61) (by decide +kernel)]
      refine ite_splitN (fun e2 => iteT ⟨pl, rfl, bad ?_⟩) (fun e2 => ⟨.str x, rfl, 1, rfl, x, rfl, xs1, cut1 x, rfl, by omega, fun H1 s1 => ⟨_, rfl, ?_⟩⟩)
      · unfold goodValue goodId
        rw [if_neg e2, decide_eq_false e]
        rfl
      · have g : goodValue x = onlyIn lets (cut1 x) := if_pos e2
        cases ho : onlyIn lets (cut1 x) with
        | false =>
          rw [ho] at g
          exact iteT ⟨pl, rfl, BadE.on (bad g) s1⟩
        | true =>
          rw [ho] at g
          exact iteF ⟨.str x, rfl, 1, rfl, x, rfl, xs1, good g H1 s1⟩

/-! ### parse_request -/
abbrev s_parse_request : Stmt := topS 18
theorem sc_parse_request : FnScope ["line", "place", "words", "head", "rest", "word"] ["line", "place"] (defScope s_parse_request) := ⟨rfl, rfl, rfl, by decide +kernel, rfl, by decide +kernel, by decide +kernel⟩
def spPR (C : Addr) : Sp := fun vs H Q E => ∃ (x : Str) (pl : V), vs = [.str x, pl] ∧ x.length ≤ 1000000 ∧ (goodLine (Txt.split x SP1) = true → ∀ (a : Addr) H', Same H H' → H' a = some (.tup (reqOf (Txt.split x SP1))) → Q (.ref a) H') ∧
  (goodLine (Txt.split x SP1) = false → BadE C E pl H)
theorem good_new {vs : List Str} : goodLine (NEW1 :: vs) = (decide (vs.length ≤ 3) && vs.all goodValue) := by
  unfold goodLine
  simp
theorem req_new {vs : List Str} : reqOf (NEW1 :: vs) = [V.str NEW1] ++ vs.map valOf := by
  unfold reqOf
  simp
theorem good_other {w0 w1 : Str} {vs : List Str} (h : w0 ≠ NEW1) : goodLine (w0 :: w1 :: vs) = (goodId w0 && !decide (w1 = NEW1) && goodName w1 && (decide (vs.length ≤ 3) && vs.all goodValue)) := if_neg h
theorem req_other {w0 w1 : Str} {vs : List Str} (h : w0 ≠ NEW1) : reqOf (w0 :: w1 :: vs) = [valOf w0, V.str w1] ++ vs.map valOf := if_neg h
theorem good_one {w0 : Str} (h : w0 ≠ NEW1) : goodLine [w0] = false := if_neg h
theorem vals_of : ∀ {vs : List Str} {ys : List V}, Paired (fun v y => ∃ w : Str, v = V.str w ∧ goodValue w = true ∧ y = valOf w) (vs.map V.str) ys → vs.all goodValue = true ∧ ys = vs.map valOf
  | [], _, .nil => ⟨rfl, rfl⟩
  | a :: l, _, .cons r t => by
    obtain ⟨w, e1, g, e2⟩ := r
    cases e1
    obtain ⟨h1, h2⟩ := vals_of t
    rw [List.all_cons, g, h1, h2, e2]
    exact ⟨rfl, rfl⟩
theorem ok_parse_request {f : Addr} {fd : FuncData} (T : Txt mg t1 t2 t3 t4 t5) (B : Bad P w K mg base CB) (F : DefD K "parse_request" "parse_request" s_parse_request f fd) (C_parse_value : Cal P w K mg base (L2N.CX P w) 5 "parse_value" ["text", "place"] (spPV CB))
    (C_is_name : Cal P w K mg base CX0 1 "is_name" ["value"] spName) : FnOk P w K mg base (L2N.CX P w) 6 f fd ["line", "place"] (spPR CB) := by
  refine F.ok sc_parse_request (fun vs H Q E h => ?_) (fun cdv A outer s H vs Q E hr h => ?_)
  · obtain ⟨x, pl, rfl, _⟩ := h
    rfl
  · obtain ⟨x, pl, rfl, hx, good, bad⟩ := h
    have tk : L2N.Takes (cxOf (L2N.CX P w) P w K mg base ["line", "place", "words", "head", "rest", "word"] "parse_request" (defScope s_parse_request) f cdv A outer s H E) (fun cls d _ H => E cls d H) := L2N.takes_of rfl rfl rfl rfl
    refine ⟨_, (pss_cons (ps_set (i := 2) sc_parse_request.nd rfl (.inl rfl) (pe_split (pv 0) pe_str))
    (pss_consM (ps_if (pt_cmpR op_eq (pe_ix ix_list (pv 2) pe_int (fun _ _ => rfl)) pe_str (nomark _)) (pss_cons (ps_set (i := 3) sc_parse_request.nd rfl (.inl rfl) (pe_lst (pa_cons pe_str pa_nil)))
    (pss_one (ps_set (i := 4) sc_parse_request.nd rfl (.inl rfl) (pe_slice sl_list (pv 2) (po_some pe_int) po_none))))
      (pss_cons (ps_if (pw_or (pt_not (pt_val (pe_m1 PySem.F.slot_str_startswith PySem.F.type_str_startswith mt_startswith (pe_ix ix_list (pv 2) pe_int (fun _ _ => rfl)) pe_str))) (pw_or (pt_cmpR op_lt (pe_callB call_len (by rfl) T.m_len (by decide +kernel) (pa_cons (pv 2) pa_nil)) pe_int (nomark _)) (pw_or (pt_not (pt_val (pe_cal C_is_name (hr.mono (by decide)) (by rfl) pass0 (pa_cons (pe_ix ix_list (pv 2) pe_int (fun _ _ => rfl)) pa_nil)))) (pw_or1 (pt_cmpR op_eq (pe_ix ix_list (pv 2) pe_int (fun _ _ => rfl)) pe_str (nomark _)))))).pt (pss_one (ps_bad B (hr.mono (by decide)) rfl tk (by rfl) (pv 1)))
      pss_nil)
    (pss_cons (ps_set (i := 3) sc_parse_request.nd rfl (.inl rfl) (pe_lst (pa_cons (pe_cal C_parse_value (hr.mono (by decide)) (by rfl) (L2N.passes_call tk (fun _ _ _ _ h => h)) (pa_cons (pe_ix ix_list (pv 2) pe_int (fun _ _ => rfl)) (pa_cons (pv 1) pa_nil))) (pa_cons (pe_ix ix_list (pv 2) pe_int (fun _ _ => rfl)) pa_nil))))
    (pss_one (ps_set (i := 4) sc_parse_request.nd rfl (.inl rfl) (pe_slice sl_list (pv 2) (po_some pe_int) po_none))))))
    (pss_cons (ps_if (pt_cmpR op_gt (pe_callB call_len (by rfl) T.m_len (by decide +kernel) (pa_cons (pv 4) pa_nil)) (pe_glob (v := .int 3) (by rfl) T.g_VALUES_MOST ⟨_, rfl⟩) (nomark _)) (pss_one (ps_bad B (hr.mono (by decide)) rfl tk (by rfl) (pv 1)))
      pss_nil)
    (pss_one (ps_ret (pe_callTy call_tuple_of (by rfl) T.m_tuple (by decide +kernel) (pa_cons (pe_op op_cat (pv 3) (pe_lcX (C := Calm) (Eb := E) (own := [("word", 5)]) (g := gName 5) (calm_blk rfl) tk (fun _ _ _ _ h => h) rfl rfl sc_parse_request.nd (pi_calm (pi_list (pv 4))) (blkOk_by (own := [("word", 5)]) (N := ["line", "place", "words", "head", "rest", "word"]) (sc := defScope s_parse_request) (by decide +kernel))
      (fun _ _ _ _ _ _ => pg_name (i := 5) sc_parse_request.nd rfl (.inl rfl)) (fun _ _ _ _ _ _ hp => pts_nil)
      (fun _ _ _ _ _ _ => (pe_cal C_parse_value (hr.mono (by decide)) (by rfl) passes_blk (pa_cons (pv 5) (pa_cons (pv 1) pa_nil)))))) pa_nil))))))), ?_⟩
    refine ⟨.str x, rfl, ⟨_, rfl⟩, x, _, rfl, rfl, by decide +kernel, by rw [sizeLine_eq]; omega, fun W nW => ?_⟩
    obtain ⟨ss, sc⟩ := split_sum sp1 sp2 x
    have sn := split_ne sp1 sp2 x
    have sp : ∀ p ∈ Txt.split x SP1, p.length ≤ x.length := fun p hp => split_part sp1 sp2 hp
    generalize hws : Txt.split x SP1 = ws at ss sc sn sp good bad
    have hws' : Txt.split x (Str.ofString " ") = ws := hws
    rw [hws']
    have s0 : Same H (upd H W (.lst (ws.map V.str))) := same_upd nW
    have sW : SqL K (upd H W (.lst (ws.map V.str))) W (ws.map V.str) := SqL.of upd_same
    obtain ⟨w0, r, rfl⟩ : ∃ w0 r, ws = w0 :: r := by
      cases ws with
      | nil => exact absurd rfl sn
      | cons a r => exact ⟨a, r, rfl⟩
    refine ⟨fun σ' H' => ∃ (Hd R : Addr) (hv : List V) (vs : List Str), σ' = [some (.str x), some pl, some (.ref W), some (.ref Hd), some (.ref R), none] ∧ Same H H' ∧ H' Hd = some (.lst hv) ∧ H' R = some (.lst (vs.map V.str)) ∧ hv.length ≤ 2 ∧ (∀ v ∈ vs, v ∈ w0 :: r) ∧ vs.length ≤ x.length + 1 ∧
      goodLine (w0 :: r) = (decide (vs.length ≤ 3) && vs.all goodValue) ∧ reqOf (w0 :: r) = hv ++ vs.map valOf, ?_, ?_⟩
    · refine ⟨.ref W, rfl, W, _, 0, .str w0, rfl, rfl, sW, atI_nat (j := 0) rfl, rfl, _, rfl, ite_split (fun e => ?_) (fun e => ?_)⟩
      · have e0 : w0 = NEW1 := by injection e
        subst e0
        refine ⟨by show 1 ≤ sizeLine; decide, fun c nc => ?_⟩
        have sW1 := (same_upd (o := .lst [V.str NEW1]) nc).seq sW
        refine ⟨.ref W, rfl, 1, rfl, W, _, rfl, sW1, fun d nd => ?_⟩
        rw [show cutV ((NEW1 :: r).map V.str) (some 1) none = r.map V.str from cut_from _ 1]
        refine ⟨c, d, [V.str NEW1], r, rfl, (s0.trans (same_upd nc)).trans (same_upd nd), (upd_ne (ne_of_none upd_same nd)).trans upd_same, upd_same, by decide, fun v hv => List.mem_cons_of_mem _ hv, ?_, good_new, req_new⟩
        rw [List.length_cons] at sc
        omega
      · have e0 : w0 ≠ NEW1 := fun z => e (by rw [z]; rfl)
        have l0 := sp w0 List.mem_cons_self
        refine ⟨.ref W, rfl, W, _, 0, .str w0, rfl, rfl, sW, atI_nat (j := 0) rfl, ⟨_, rfl⟩, w0, _, rfl, rfl, _, rfl, ?_⟩
        rw [starts_is (x := w0) (y := "#") (c := 35) (by decide +kernel)]
        refine ite_splitN (fun e2 => ?_) (fun e2 => ?_)
        · refine iteT ?_
          refine ⟨pl, rfl, BadE.on (bad ?_) s0⟩
          cases r with
          | nil => exact good_one e0
          | cons w1 vs =>
            rw [good_other e0]
            unfold goodId
            rw [decide_eq_false e2]
            rfl
        refine ⟨.ref W, rfl, .ref W, _, rfl, .inl ⟨_, sW, rfl⟩, _, _, rfl, rfl, _, rfl, ite_split (fun e3 => iteT ⟨pl, rfl, BadE.on (bad ?_) s0⟩) (fun e3 => ?_)⟩
        · cases r with
          | nil => exact good_one e0
          | cons w1 vs =>
            rw [List.length_map, List.length_cons, List.length_cons] at e3
            omega
        obtain ⟨w1, vs, rfl⟩ : ∃ w1 vs, r = w1 :: vs := by
          cases r with
          | nil => exact absurd (show (((1 : Nat) : Int) < 2) by decide) e3
          | cons a r => exact ⟨a, r, rfl⟩
        have l1 := sp w1 (List.mem_cons_of_mem _ List.mem_cons_self)
        refine ⟨.ref W, rfl, W, _, 1, .str w1, rfl, rfl, sW, atI_nat (j := 1) rfl, w1, rfl, by omega, fun H2 s2 => ⟨_, rfl, ?_⟩⟩
        have sW2 := s2.seq sW
        have bad2 : (goodId w0 = false ∨ decide (w1 = NEW1) = true ∨ goodName w1 = false) → goodLine (w0 :: w1 :: vs) = false := fun h => by
          rw [good_other e0]
          rcases h with h | h | h
          · rw [h]
            rfl
          · rw [h]
            simp
          · rw [h]
            simp
        cases hn : goodName w1 with
        | false => exact iteT (iteT ⟨pl, rfl, BadE.on (bad (bad2 (.inr (.inr hn)))) (s0.trans s2)⟩)
        | true =>
          refine iteF ⟨.ref W, rfl, W, _, 1, .str w1, rfl, rfl, sW2, atI_nat (j := 1) rfl, rfl, _, rfl, ite_split (fun e4 => ⟨pl, rfl, BadE.on (bad (bad2 (.inr (.inl (decide_eq_true (by injection e4)))))) (s0.trans s2)⟩) (fun e4 => ?_)⟩
          have e5 : w1 ≠ NEW1 := fun z => e4 (by rw [z]; rfl)
          -- head, rest
          have gv : goodValue w0 = goodId w0 := by
            unfold goodValue
            rw [if_neg (by rw [e2]; decide)]
          refine ⟨.ref W, rfl, W, _, 0, .str w0, rfl, rfl, sW2, atI_nat (j := 0) rfl, pl, rfl, w0, pl, rfl, by omega, fun g H3 s3 => ?_, fun g => BadE.on (bad (bad2 (.inl (by rw [← gv]; exact g)))) (s0.trans s2)⟩
          have sW3 := s3.seq sW2
          refine ⟨.ref W, rfl, W, _, 1, .str w1, rfl, rfl, sW3, atI_nat (j := 1) rfl, by show 2 ≤ sizeLine; decide, fun c nc => ?_⟩
          have sW4 := (same_upd (o := .lst [valOf w0, V.str w1]) nc).seq sW3
          refine ⟨.ref W, rfl, 2, rfl, W, _, rfl, sW4, fun d nd => ?_⟩
          rw [show cutV ((w0 :: w1 :: vs).map V.str) (some 2) none = vs.map V.str from cut_from _ 2]
          refine ⟨c, d, [valOf w0, V.str w1], vs, rfl, (((s0.trans s2).trans s3).trans (same_upd nc)).trans (same_upd nd), (upd_ne (ne_of_none upd_same nd)).trans upd_same, upd_same, Nat.le_refl 2, fun v hv => List.mem_cons_of_mem _ (List.mem_cons_of_mem _ hv), ?_, ?_, req_other e0⟩
          · rw [List.length_cons, List.length_cons] at sc
            omega
          · rw [good_other e0, ← gv, g, decide_eq_false e5, hn]
            rfl
    · rintro σ' H2 ⟨Hd, R, hv, vs, rfl, s2, eHd, eR, lh, hm, lv, gl, rq⟩
      have sR : SqL K H2 R (vs.map V.str) := SqL.of eR
      refine ⟨.ref R, rfl, .ref R, _, rfl, .inl ⟨_, sR, rfl⟩, _, _, rfl, rfl, _, rfl, ite_split (fun e => ⟨pl, rfl, BadE.on (bad ?_) s2⟩) (fun e => ?_)⟩
      · rw [List.length_map] at e
        rw [gl, decide_eq_false (show ¬ vs.length ≤ 3 by omega)]
        rfl
      rw [List.length_map] at e
      have l3 : vs.length ≤ 3 := by omega
      rw [decide_eq_true l3, Bool.true_and] at gl
      refine ⟨.ref Hd, rfl, .ref R, rfl, R, rfl, ⟨_, sR⟩, fun D hD => lcR (xs := vs.map V.str) (R := fun v y => ∃ w : Str, v = V.str w ∧ goodValue w = true ∧ y = valOf w) hD (by rw [List.length_map]; omega) (goL sR) (stL sR) yL (xL sR) (fun i v H4 Q2 hi4 s4 k => ?_) fun ys H4 pr s4 hd4 => ?_⟩
      · obtain ⟨w, hw, rfl⟩ : ∃ w ∈ vs, v = V.str w := by
          obtain ⟨w, hw, e⟩ := List.mem_map.mp (List.mem_of_getElem? hi4)
          exact ⟨w, hw, e.symm⟩
        have lw := sp w (hm w hw)
        refine ⟨_, rfl, pl, rfl, w, pl, rfl, by omega, fun g H5 s5 => k _ H5 ⟨w, rfl, g, rfl⟩ s5, fun g => BadE.on (bad ?_) (s2.trans s4)⟩
        rw [gl]
        cases ha : vs.all goodValue with
        | false => rfl
        | true =>
          have := List.all_eq_true.mp ha w hw
          rw [g] at this
          cases this
      · obtain ⟨ga, ey⟩ := vals_of pr
        rw [ey] at hd4
        rw [ga] at gl
        refine ⟨Hd, D, hv, vs.map valOf, rfl, rfl, s4 _ _ eHd, hd4, by rw [sizeLine_eq, List.length_map]; omega, fun c nc => ⟨c, _, rfl, .inl ⟨SqL.of upd_same, fun t nt => ?_⟩⟩⟩
        exact good gl t _ (((s2.trans s4).trans (same_upd nc)).trans (same_upd nt)) (by rw [upd_same, rq])

/-! ### parse_talk -/
abbrev s_parse_talk : Stmt := topS 19
theorem sc_parse_talk : FnScope ["text", "lines", "k"] ["text"] (defScope s_parse_talk) := ⟨rfl, rfl, rfl, by decide +kernel, rfl, by decide +kernel, by decide +kernel⟩
/-- each turn one subject, told of the heap at hand -/
theorem lcT {α : Type} {J : It} {xs : List V} {ls : List α} {R : Hp → α → V → Prop} {slot : Nat} {vs : List Nat} {te : TE} {σ : L2.St} {H1 : Hp} {D : Addr} {Qd : Hp → Prop} (hD : H1 D = none) (hn : xs.length ≤ 10000000) (hl : ls.length = xs.length)
    (mono : ∀ H H' l y, (∀ b zs, H b = some (.tup zs) → H' b = some (.tup zs)) → R H l y → R H' l y)
    (hgo : ∀ i H, i < xs.length → Same H1 H → J.go i H) (hst : ∀ H, Same H1 H → J.stop xs.length H) (hy : ∀ i H x H', J.yld i H x H' → H' = H) (hx : ∀ i H x, i < xs.length → Same H1 H → J.yld i H x H → xs[i]? = some x)
    (step : ∀ (i : Nat) (x : V) (l : α) (H : Hp) (ys : List V) (Q2 : VK), xs[i]? = some x → ls[i]? = some l → Same H1 H → Paired (R H) (ls.take i) ys → (∀ z H4, R H4 l z → Same H H4 → Q2 z H4) → te ((wipe σ [slot]).set slot (some x)) H Q2)
    (done : ∀ (ys : List V) (H' : Hp), Paired (R H') ls ys → Same H1 H' → H' D = some (.lst ys) → Qd H') (hv : vs = [slot] := by rfl) :
    ∃ W : Nat → Nat → Hp → Prop, (∃ m, W 0 m (upd H1 D (.lst []))) ∧ ∀ i m H, W i m H →
      (J.stop i H ∧ Qd H) ∨ (J.go i H ∧ ∃ Nx : Hp → Prop, (∀ H', Nx H' → ∃ m', m' < m ∧ W (i + 1) m' H') ∧ ∀ x H', J.yld i H x H' → gName slot x (wipe σ vs) H' fun σ2 H2 => wipe σ2 vs = wipe σ vs ∧ tYes σ2 H2 fun b H3 =>
        if b = true then te σ2 H3 fun y H4 => ∃ acc, H4 D = some (.lst acc) ∧ acc.length < sizeLine ∧ Nx (upd H4 D (.lst (acc ++ [y]))) else Nx H3) := by
  subst hv
  have pm : ∀ {H H' : Hp} {l : List α} {ys : List V}, (∀ b zs, H b = some (.tup zs) → H' b = some (.tup zs)) → Paired (R H) l ys → Paired (R H') l ys := by
    intro H H' l ys hh p
    induction p with
    | nil => exact .nil
    | cons r _ ih => exact .cons (mono _ _ _ _ hh r) ih
  refine lc_gen (n := xs.length) (fun i H => Same H1 H ∧ ∃ ys, Paired (R H) (ls.take i) ys ∧ H D = some (.lst ys)) ⟨same_upd hD, [], .nil, upd_same⟩ (fun i H hi p => hgo i H hi p.1) (fun H p => hst H p.1) hy (fun i x H hi p y => ?_) fun H p => ?_
  · obtain ⟨s, ys, pr, hd⟩ := p
    have ex := hx i H x hi s y
    have hi2 : i < ls.length := by omega
    have el : ls[i]? = some ls[i] := List.getElem?_eq_getElem hi2
    refine ⟨wipe1, ?_⟩
    dsimp only [tYes]
    rw [if_pos rfl]
    refine step i x ls[i] H ys _ ex el s pr fun z H4 rz s4 => ⟨ys, s4 _ _ hd, ?_, Same.over (s.trans s4) hD, ys ++ [z], ?_, upd_same⟩
    · have e := Paired.length pr
      rw [List.length_take] at e
      rw [sizeLine_eq]
      omega
    · have hd4 := s4 _ _ hd
      have t1 : ∀ b zs, H4 b = some (.tup zs) → (upd H4 D (.lst (ys ++ [z]))) b = some (.tup zs) := fun b zs e => (upd_ne (fun q => by rw [q, hd4] at e; cases e)).trans e
      rw [take_snoc el]
      exact Paired.snoc (pm t1 (pm (fun b zs e => s4 _ _ e) pr)) (mono _ _ _ _ t1 rz)
  · obtain ⟨s, ys, pr, hd⟩ := p
    rw [← hl, List.take_length] at pr
    exact done ys H pr s hd
def lineOk (l : Str) : Bool := goodLine (Txt.split l SP1)
def linesOf (x : Str) : List Str := if x = Str.empty then [] else Txt.split x NL1
def LineR (H : Hp) (l : Str) (y : V) : Prop := ∃ a : Addr, y = .ref a ∧ lineOk l = true ∧ l.length ≤ 1000000 ∧ H a = some (.tup (reqOf (Txt.split l SP1)))
theorem lines_at {H : Hp} : ∀ {ls : List Str} {ys : List V}, Paired (LineR H) ls ys → ls.all lineOk = true ∧ ∃ as : List Addr, ys = as.map V.ref ∧ LinesAt H as (ls.map fun l => Txt.split l SP1)
  | _, _, .nil => ⟨rfl, [], rfl, .nil⟩
  | _, _, .cons r t => by
    obtain ⟨a, e, ok, hl, ha⟩ := r
    obtain ⟨h1, as, e2, h2⟩ := lines_at t
    refine ⟨by rw [List.all_cons, ok, h1]; rfl, a :: as, by rw [e, e2]; rfl, .cons ⟨ha, ok, Nat.le_trans (split_sum sp1 sp2 _).1 hl⟩ h2⟩
theorem lines_good {H : Hp} : ∀ {ls : List Str} {ys : List V}, Paired (LineR H) ls ys → ∀ l ∈ ls, lineOk l = true := fun p l hl => List.all_eq_true.mp (lines_at p).1 l hl
def spPT (C : Addr) : Sp := fun vs H Q E => ∃ (x : Str), vs = [.str x] ∧ x.length ≤ 900000 ∧
  ((linesOf x).all lineOk = true → ∀ (a : Addr) (as : List Addr) H', Same H H' → H' a = some (.lst (as.map V.ref)) → LinesAt H' as ((linesOf x).map fun l => Txt.split l SP1) → Q (.ref a) H') ∧
  (∀ (i : Nat) (l : Str), (linesOf x)[i]? = some l → lineOk l = false → (∀ l' ∈ (linesOf x).take i, lineOk l' = true) → BadE C E (.int (i : Int)) H)
theorem ok_parse_talk {f : Addr} {fd : FuncData} (T : Txt mg t1 t2 t3 t4 t5) (F : Fun K "parse_talk" "parse_talk" s_parse_talk f fd) (C_parse_request : Cal P w K mg base (L2N.CX P w) 6 "parse_request" ["line", "place"] (spPR CB)) :
    FnOk P w K mg base (L2N.CX P w) 7 f fd ["text"] (spPT CB) := by
  refine okG F sc_parse_talk (fun vs H Q E h => ?_) (fun cdv A outer s H vs Q E hr h => ?_)
  · obtain ⟨x, rfl, _⟩ := h
    rfl
  · obtain ⟨x, rfl, hx, good, bad⟩ := h
    have tk : L2N.Takes (cxOf (L2N.CX P w) P w K mg base ["text", "lines", "k"] "parse_talk" (defScope s_parse_talk) f cdv A outer s H E) (fun cls d _ H => E cls d H) := L2N.takes_of rfl rfl rfl rfl
    refine ⟨_, (pss_cons (ps_if (pt_cmpR op_eq (pv 0) pe_str (nomark _)) (pss_one (ps_ret (pe_lst pa_nil)))
      pss_nil)
    (pss_cons (ps_set (i := 1) sc_parse_talk.nd rfl (.inr rfl) (pe_split (pv 0) pe_str))
    (pss_one (ps_ret (pe_lcX (C := Calm) (Eb := E) (own := [("k", 2)]) (g := gName 2) (calm_blk rfl) tk (fun _ _ _ _ h => h) rfl rfl sc_parse_talk.nd (pi_calm (pi_range1 (by rfl) T.m_range (pa_cons (pe_callB call_len (by rfl) T.m_len (by decide +kernel) (pa_cons (pv 1) pa_nil)) pa_nil))) (blkOk_by (own := [("k", 2)]) (N := ["text", "lines", "k"]) (sc := defScope s_parse_talk) (by decide +kernel))
      (fun _ _ _ _ _ _ => pg_name (i := 2) sc_parse_talk.nd rfl (.inl rfl)) (fun _ _ _ _ _ _ hp => pts_nil)
      (fun _ _ _ _ _ _ => (pe_cal C_parse_request (hr.mono (by decide)) (by rfl) passes_blk (pa_cons (pe_ix (show IxR _ (rIxL K) from ix_list) (pv 1) (pv 2) (fun _ _ => rfl)) (pa_cons (pv 2) pa_nil))))))))), ?_⟩
    refine ⟨.str x, rfl, rfl, _, rfl, ite_split (fun e => ?_) (fun e => ?_)⟩
    · have e0 : x = Str.empty := by injection e
      have el : linesOf x = [] := if_pos e0
      rw [el] at good
      exact ⟨Nat.zero_le _, fun a na => good rfl a [] _ (same_upd na) upd_same .nil⟩
    · have e0 : x ≠ Str.empty := fun z => e (by rw [z]; rfl)
      have el : linesOf x = Txt.split x NL1 := if_neg e0
      rw [el] at good bad
      refine ⟨.str x, rfl, ⟨_, rfl⟩, x, _, rfl, rfl, by decide +kernel, by rw [sizeLine_eq]; omega, fun L nL => ?_⟩
      obtain ⟨_, sc⟩ := split_sum nl1 nl2 x
      have sp : ∀ p ∈ Txt.split x NL1, p.length ≤ x.length := fun p hp => split_part nl1 nl2 hp
      generalize hws : Txt.split x NL1 = ws at sc sp good bad
      have hws' : Txt.split x (Str.ofString "\n") = ws := hws
      rw [hws']
      have s0 : Same H (upd H L (.lst (ws.map V.str))) := same_upd nL
      have sL : SqL K (upd H L (.lst (ws.map V.str))) L (ws.map V.str) := SqL.of upd_same
      refine ⟨.ref L, rfl, .ref L, _, rfl, .inl ⟨_, sL, rfl⟩, _, rfl, by omega, by rw [List.length_map]; omega, fun D hD => ?_⟩
      rw [show (((ws.map V.str).length : Nat) : Int).toNat = ws.length by rw [List.length_map]; rfl]
      refine lcT (xs := upto ws.length) (ls := ws) (R := LineR) hD (by rw [upto_len]; omega) (upto_len _).symm (fun H H' l y hh ⟨a, e, ok, hl, ha⟩ => ⟨a, e, ok, hl, hh _ _ ha⟩) (goR _) (stR _) (yR _) (xR _) (fun i v l H4 ys Q2 hi hl s4 pr k => ?_) fun ys H4 pr s4 hd => ?_
      · obtain rfl : v = .int (i : Int) := by
          unfold upto at hi
          rw [List.getElem?_map] at hi
          cases e : (List.range ws.length)[i]? with
          | none => rw [e] at hi; cases hi
          | some c =>
            rw [e] at hi
            obtain ⟨h1, h2⟩ := List.getElem?_eq_some_iff.mp e
            rw [List.getElem_range] at h2
            rw [h2]
            exact (Option.some.inj hi).symm
        have lm := List.mem_of_getElem? hl
        have ll := sp l lm
        refine ⟨.ref L, rfl, .int (i : Int), rfl, L, _, (i : Int), .str l, rfl, rfl, s4.seq sL, atI_nat (by rw [List.getElem?_map, hl]; rfl), .int (i : Int), rfl, l, .int (i : Int), rfl, by omega, fun g a H5 s5 e5 => k _ H5 ⟨a, rfl, g, by omega, e5⟩ s5, fun g => BadE.on (bad i l hl g (lines_good pr)) (s0.trans s4)⟩
      · obtain ⟨ok, as, ey, at'⟩ := lines_at pr
        rw [ey] at hd
        exact good ok D as H4 (s0.trans s4) hd at'
end
end TK

/-! TL1: _law_only, _law_good_id, _law_good_value, _law_good_line, _law_word_read. -/
namespace TK
open PySem PySem.Spec PyProof.Rows L2
section
variable {P : Program} {w : World} {K : PySem.W.Frag} {mg : Str → Option Value} {base : Heap} {t1 t2 t3 t4 t5 : Tok} {CB : Addr}

theorem hot_suite {X : Cx} {a : Addr} {oe : Obj} {cls : Value} {d : Option Addr} {pn : List (Addr × Obj)} (hz : L2N.Zn cls d oe) (hf : ∃ vs, oe.data = .fields vs) : L2H.HotC (X.suite a ((a, oe) :: pn)) :=
  let ⟨vs, hd⟩ := hf
  ⟨(a, oe), ⟨rfl, vs, hd, hz.2.2 vs hd⟩, List.mem_cons_self⟩

/-! ### _law_only -/
abbrev s_law_only : Stmt := topS 33
theorem sc_law_only : FnScope ["_law_text_here", "_law_signs", "_law_sign_here"] ["_law_text_here", "_law_signs"] (defScope s_law_only) := ⟨rfl, rfl, rfl, by decide +kernel, rfl, by decide +kernel, by decide +kernel⟩
theorem none_out {g : V → Bool} : ∀ (xs : List V), decide (V.int (((xs.filter fun v => !g v).length : Nat) : Int) = V.int 0) = xs.all g
  | [] => rfl
  | a :: r => by
    have ih := none_out (g := g) r
    cases ha : g a with
    | true =>
      rw [List.all_cons, ha, Bool.true_and, ← ih, List.filter_cons_of_neg (by rw [ha]; decide)]
    | false =>
      rw [List.all_cons, ha, Bool.false_and, List.filter_cons_of_pos (by rw [ha]; rfl)]
      refine decide_eq_false fun e => ?_
      injection e with e
      rw [List.length_cons] at e
      omega
theorem in_signs {c : Nat} {S : Str} : inV (V.str ⟨#[c]⟩) (signs S) = decide (c ∈ tl S) := by
  unfold inV signs
  show ((tl S).map fun c => V.str ⟨#[c]⟩).any _ = _
  rw [List.any_map]
  generalize tl S = l
  induction l with
  | nil => rfl
  | cons a r ih =>
    rw [List.any_cons, ih]
    show ((⟨#[a]⟩ : Str) == ⟨#[c]⟩ || _) = _
    by_cases h : a = c
    · subst h
      simp
    · have e : ((⟨#[a]⟩ : Str) == ⟨#[c]⟩) = false := by
        rw [beq_eq_false_iff_ne]
        intro z
        injection z with z
        have z2 : [a] = [c] := congrArg Array.toList z
        exact h (List.head_eq_of_cons_eq z2)
      rw [e]
      have h' : ¬ c = a := fun z => h z.symm
      simp [h']
theorem signs_flat (x : Str) : (signs x).all flatV = true := by
  unfold signs
  rw [List.all_map]
  exact List.all_eq_true.mpr fun _ _ => rfl
theorem signs_only {x S : Str} : ((signs x).all fun v => inV v (signs S)) = onlyIn (tl S) x := by
  unfold onlyIn
  show (((tl x).map fun c => V.str ⟨#[c]⟩).all _) = _
  rw [List.all_map]
  congr 1
  funext c
  exact in_signs
def spOnlyL : Sp := fun vs H Q _ => ∃ x S : Str, vs = [.str x, .str S] ∧ x.length ≤ 1000000 ∧ S.length ≤ 1000 ∧ ∀ H', Same H H' → Q (.bl (onlyIn (tl S) x)) H'
theorem ok_only {f : Addr} {fd : FuncData} (T : Txt mg t1 t2 t3 t4 t5) (F : Fun K "_law_only" "_law_only" s_law_only f fd) : FnW P w K mg base 1 f fd ["_law_text_here", "_law_signs"] spOnlyL := by
  refine okW F sc_law_only (fun vs H Q E h => ?_) (fun cdv A outer s H vs Q E calm pn hr hw h => ?_)
  · obtain ⟨x, S, rfl, _⟩ := h
    rfl
  · obtain ⟨x, S, rfl, hx, hS, q⟩ := h
    refine ⟨_, (pss_one (ps_ret (pe_cmpR op_eq (pe_callB call_len (by rfl) T.m_len (by decide +kernel) (pa_cons (pe_lcX (C := Warm) (Eb := E0) (own := [("_law_sign_here", 2)]) (g := gName 2) (warm_blk hw) takes_none (fun _ _ _ _ h => h) rfl rfl sc_law_only.nd (pi_strW (pv 0)) (blkOk_by (own := [("_law_sign_here", 2)]) (N := ["_law_text_here", "_law_signs", "_law_sign_here"]) (sc := defScope s_law_only) (by decide +kernel))
      (fun _ _ _ _ _ _ => pg_name (i := 2) sc_law_only.nd rfl (.inl rfl)) (fun _ _ _ _ _ _ hp => pts_one (pt_cmpR (show OpR _ _ (rIn K true) from op_notIn_seq) (pv 2) (pe_callTy (call_list_str (warm_in hw hp)) (by rfl) T.m_list (by decide +kernel) (pa_cons (pv 1) pa_nil)) rfl))
      (fun _ _ _ _ _ _ => (pv 2))) pa_nil)) pe_int (nomark _)))), ?_⟩
    refine ⟨.str x, rfl, x, rfl, fun D hD => lcF (xs := signs x) (p := fun v => !inV v (signs S)) hD (by rw [signs_len]; exact Nat.le_trans hx (by decide)) (by show 2 < 3; decide) (goS x) (stS x) (yS x) (xS x) (fun i v H4 Q2 hi s4 k => ?_) fun H4 s4 hd => ?_⟩
    · have fl : flatV v = true := List.all_eq_true.mp (signs_flat x) v (List.mem_of_getElem? hi)
      exact ⟨v, rfl, .str S, rfl, S, rfl, by rw [sizeLine_eq]; omega, fun l nl => ⟨l, signs S, rfl, .inl (SqL.of upd_same), fl, signs_flat S, _, rfl, k _ (same_upd nl)⟩⟩
    · refine ⟨.ref D, _, rfl, .inl ⟨_, SqL.of hd, rfl⟩, rfl, ?_⟩
      rw [none_out, signs_only]
      exact q H4 s4

/-! ### _law_good_id -/
abbrev s_law_good_id : Stmt := topS 34
theorem sc_law_good_id : FnScope ["_law_word_here", "_law_digits"] ["_law_word_here"] (defScope s_law_good_id) := ⟨rfl, rfl, rfl, by decide +kernel, rfl, by decide +kernel, by decide +kernel⟩
def spGI : Sp := fun vs H Q _ => ∃ x : Str, vs = [.str x] ∧ x.length ≤ 1000000 ∧ ∀ H', Same H H' → Q (.bl (goodId x)) H'
theorem ok_good_id {f : Addr} {fd : FuncData} (T : Txt mg t1 t2 t3 t4 t5) (F : Fun K "_law_good_id" "_law_good_id" s_law_good_id f fd) (C_law_only : CalW P w K mg base 1 "_law_only" ["_law_text_here", "_law_signs"] spOnlyL) : FnW P w K mg base 2 f fd ["_law_word_here"] spGI := by
  refine okW F sc_law_good_id (fun vs H Q E h => ?_) (fun cdv A outer s H vs Q E calm pn hr hw h => ?_)
  · obtain ⟨x, rfl, _⟩ := h
    rfl
  · obtain ⟨x, rfl, hx, q⟩ := h
    refine ⟨_, (pss_cons (ps_set (i := 1) sc_law_good_id.nd rfl (.inl rfl) (pe_slice sl_str (pv 0) (po_some pe_int) po_none))
    (pss_consM (ps_if (pt_cmpR op_eq (pe_slice sl_str (pv 1) po_none (po_some pe_int)) pe_str (nomark _)) (pss_one (ps_set (i := 1) sc_law_good_id.nd rfl (.inl rfl) (pe_slice sl_str (pv 1) (po_some pe_int) po_none)))
      pss_nil)
    (pss_cons (ps_if (pw_or (pt_cmpR op_ne (pe_slice sl_str (pv 0) po_none (po_some pe_int)) pe_str (nomark _)) (pw_or (pt_not (pt_chain op_le op_le pe_int (pe_callB call_len (by rfl) T.m_len (by decide +kernel) (pa_cons (pv 1) pa_nil)) pe_int)) (pw_or1 (pt_not (pt_val (pe_calW C_law_only (hr.mono (by decide)) hw (by rfl) (pa_cons (pv 1) (pa_cons pe_str pa_nil)))))))).pt (pss_one (ps_ret pe_bl))
      pss_nil)
    (pss_one (ps_ret (pe_or (pe_cmpR op_ne (pe_ix ix_str (pv 1) pe_int (fun _ _ => rfl)) pe_str (nomark _)) (pe_one (pe_cmpR op_eq (pv 0) pe_str (nomark _))))))))), ?_⟩
    have xs1 : x.length ≤ sizeLine := by rw [sizeLine_eq]; omega
    have l1 := cut1_len x
    have l2 := cut1_len (cut1 x)
    refine ⟨.str x, rfl, 1, rfl, x, rfl, xs1, fun σ' H' => σ' = [some (.str x), some (.str (stripM (cut1 x)))] ∧ H' = H, ?_, ?_⟩
    · refine ⟨.str (cut1 x), rfl, 1, rfl, cut1 x, rfl, by rw [sizeLine_eq]; omega, rfl, _, rfl, ?_⟩
      rw [first_is (x := cut1 x) (y := "-") (c := 45) (by decide +kernel)]
      refine ite_split (fun e => ?_) (fun e => ?_)
      · refine ⟨.str (cut1 x), rfl, 1, rfl, cut1 x, rfl, by rw [sizeLine_eq]; omega, ?_, rfl⟩
        rw [show stripM (cut1 x) = cut1 (cut1 x) from if_pos e]
        rfl
      · rw [show stripM (cut1 x) = cut1 x from if_neg e]
        exact ⟨rfl, rfl⟩
    · rintro σ' H' ⟨rfl, rfl⟩
      have ls : (stripM (cut1 x)).length ≤ x.length := by
        unfold stripM
        split <;> omega
      have gdef : goodNum (cut1 x) = (decide (1 ≤ (stripM (cut1 x)).length) && decide ((stripM (cut1 x)).length ≤ 30) && onlyIn digs (stripM (cut1 x)) && (decide ((tl (stripM (cut1 x))).head? ≠ some 48) || decide (cut1 x = Z1))) := rfl
      generalize stripM (cut1 x) = z at ls gdef
      have zs1 : z.length ≤ sizeLine := Nat.le_trans ls xs1
      have bad : ∀ H2, Same H' H2 → ((tl x).head? ≠ some 35 ∨ goodNum (cut1 x) = false) → Q (.bl false) H2 := fun H2 s2 h => by
        have hq := q H2 s2
        unfold goodId at hq
        rcases h with h | h
        · rw [decide_eq_false h] at hq
          exact hq
        · rw [h, Bool.and_false] at hq
          exact hq
      refine ⟨.str x, rfl, 1, rfl, x, rfl, xs1, rfl, _, rfl, ?_⟩
      rw [first_is (x := x) (y := "#") (c := 35) (by decide +kernel)]
      refine ite_splitN (fun e => ?_) (fun e => ?_)
      · exact iteT (bad _ (Same.refl _) (.inl e))
      refine ⟨.str z, rfl, .str z, _, rfl, ⟨zs1, rfl⟩, _, _, rfl, rfl, _, rfl, ite_split (fun e1 => ⟨_, _, rfl, rfl, _, rfl, ite_splitN (fun e2 => ?_) (fun e2 => ?_)⟩) (fun e1 => ⟨_, rfl, ?_⟩)⟩
      · refine iteT (bad _ (Same.refl _) (.inr ?_))
        rw [gdef, decide_eq_false (show ¬ z.length ≤ 30 by omega)]
        simp
      · refine ⟨.str z, rfl, z, DIG, rfl, by omega, by decide +kernel, fun H2 s2 => ⟨_, rfl, ?_⟩⟩
        rw [show tl DIG = digs from rfl]
        cases ho : onlyIn digs z with
        | false =>
          refine iteT (bad _ s2 (.inr ?_))
          rw [gdef, ho]
          simp
        | true =>
          refine iteF ?_
          obtain ⟨c, r, hc⟩ : ∃ c r, tl z = c :: r := by
            cases e : tl z with
            | nil =>
              have l : z.length = 0 := by rw [TL.len_tl, show TL.tl z = [] from e]; rfl
              omega
            | cons c r => exact ⟨c, r, rfl⟩
          have gd2 : goodNum (cut1 x) = (decide (c ≠ 48) || decide (cut1 x = Z1)) := by
            rw [gdef, ho, hc, decide_eq_true (show 1 ≤ z.length by omega), decide_eq_true (show z.length ≤ 30 by omega)]
            simp
          have c48 : decide (V.str (⟨#[c]⟩ : Str) = V.str (Str.ofString "0")) = decide (c = 48) := by
            have e0 : (Str.ofString "0") = (⟨#[48]⟩ : Str) := by decide +kernel
            rw [e0]
            by_cases h : c = 48
            · subst h
              simp
            · rw [decide_eq_false h]
              refine decide_eq_false fun e => ?_
              injection e with e
              injection e with e
              have e2 : [c] = [48] := congrArg Array.toList e
              exact h (List.head_eq_of_cons_eq e2)
          have x0 : decide (V.str x = V.str (Str.ofString "#0")) = decide (cut1 x = Z1) := by
            have h0 : tl (Str.ofString "#0") = [35, 48] := by decide +kernel
            have h1 := cons_cut e
            by_cases h : cut1 x = Z1
            · rw [decide_eq_true h]
              refine decide_eq_true ?_
              have : x = Str.ofString "#0" := TL.ext_tl (by
                show tl x = tl _
                rw [h1, h, z1, h0])
              rw [this]
            · rw [decide_eq_false h]
              refine decide_eq_false fun e2 => h ?_
              injection e2 with e2
              refine TL.ext_tl ?_
              show tl (cut1 x) = tl Z1
              rw [tl_cut1, e2, h0, z1]
              rfl
          have hc0 : z.cps.toList[0]? = some c := by
            show (tl z)[0]? = some c
            rw [hc]
            rfl
          have hq := q H2 s2
          unfold goodId at hq
          rw [decide_eq_true e, Bool.true_and, gd2] at hq
          refine ⟨.str z, rfl, z, 0, c, rfl, rfl, zs1, atI_nat (j := 0) hc0, rfl, _, rfl, ?_⟩
          rw [c48]
          refine ite_splitN (fun e3 => ?_) (fun e3 => ?_)
          · rw [decide_eq_true (show c ≠ 48 from e3)] at hq
            exact hq
          · refine ⟨.str x, rfl, rfl, ?_⟩
            rw [x0]
            rw [decide_eq_false (show ¬ c ≠ 48 from fun n => n e3)] at hq
            exact hq
      · refine iteT (iteT (bad _ (Same.refl _) (.inr ?_)))
        rw [gdef, decide_eq_false (show ¬ 1 ≤ z.length by omega)]
        simp

/-! ### _law_good_value -/
abbrev s_law_good_value : Stmt := topS 35
theorem sc_law_good_value : FnScope ["_law_word_here"] ["_law_word_here"] (defScope s_law_good_value) := ⟨rfl, rfl, rfl, by decide +kernel, rfl, by decide +kernel, by decide +kernel⟩
def spGV : Sp := fun vs H Q _ => ∃ x : Str, vs = [.str x] ∧ x.length ≤ 1000000 ∧ ∀ H', Same H H' → Q (.bl (goodValue x)) H'
theorem ok_good_value {f : Addr} {fd : FuncData} (T : Txt mg t1 t2 t3 t4 t5) (F : Fun K "_law_good_value" "_law_good_value" s_law_good_value f fd) (C_law_only : CalW P w K mg base 1 "_law_only" ["_law_text_here", "_law_signs"] spOnlyL)
    (C_law_good_id : CalW P w K mg base 2 "_law_good_id" ["_law_word_here"] spGI) : FnW P w K mg base 3 f fd ["_law_word_here"] spGV := by
  refine okW F sc_law_good_value (fun vs H Q E h => ?_) (fun cdv A outer s H vs Q E calm pn hr hw h => ?_)
  · obtain ⟨x, rfl, _⟩ := h
    rfl
  · obtain ⟨x, rfl, hx, q⟩ := h
    refine ⟨_, (pss_cons (ps_if (pt_cmpR op_eq (pe_slice sl_str (pv 0) po_none (po_some pe_int)) pe_str (nomark _)) (pss_one (ps_ret (pe_calW C_law_only (hr.mono (by decide)) hw (by rfl) (pa_cons (pe_slice sl_str (pv 0) (po_some pe_int) po_none) (pa_cons pe_str pa_nil)))))
      pss_nil)
    (pss_one (ps_ret (pe_calW C_law_good_id (hr.mono (by decide)) hw (by rfl) (pa_cons (pv 0) pa_nil))))), ?_⟩
    have xs1 : x.length ≤ sizeLine := by rw [sizeLine_eq]; omega
    have l1 := cut1_len x
    refine ⟨.str x, rfl, 1, rfl, x, rfl, xs1, rfl, _, rfl, ?_⟩
    rw [first_is (x := x) (y := "=") (c := 61) (by decide +kernel)]
    refine ite_split (fun e => ?_) (fun e => ?_)
    · refine ⟨.str x, rfl, 1, rfl, x, rfl, xs1, cut1 x, LET, rfl, by omega, by decide +kernel, fun H' s' => ?_⟩
      have hq := q H' s'
      rw [show goodValue x = onlyIn lets (cut1 x) from if_pos e] at hq
      exact hq
    · refine ⟨.str x, rfl, x, rfl, hx, fun H' s' => ?_⟩
      have hq := q H' s'
      rw [show goodValue x = goodId x from if_neg e] at hq
      exact hq

/-! ### _law_good_line -/
abbrev s_law_good_line : Stmt := topS 36
theorem sc_law_good_line : FnScope ["_law_line_here", "_law_words", "_law_values", "_law_word_here"] ["_law_line_here"] (defScope s_law_good_line) := ⟨rfl, rfl, rfl, by decide +kernel, rfl, by decide +kernel, by decide +kernel⟩
def spGL : Sp := fun vs H Q _ => ∃ x : Str, vs = [.str x] ∧ x.length ≤ 1000000 ∧ ∀ H', Same H H' → Q (.bl (lineOk x)) H'
/-- is a text that is a good value -/
def gvV : V → Bool
  | .str w => goodValue w
  | _ => false
theorem all_gv (vs : List Str) : ((vs.map V.str).all gvV) = vs.all goodValue := by
  rw [List.all_map]
  rfl
theorem ok_good_line {f : Addr} {fd : FuncData} (T : Txt mg t1 t2 t3 t4 t5) (F : Fun K "_law_good_line" "_law_good_line" s_law_good_line f fd) (C_law_only : CalW P w K mg base 1 "_law_only" ["_law_text_here", "_law_signs"] spOnlyL)
    (C_law_good_id : CalW P w K mg base 2 "_law_good_id" ["_law_word_here"] spGI) (C_law_good_value : CalW P w K mg base 3 "_law_good_value" ["_law_word_here"] spGV) : FnOk P w K mg base CX0 4 f fd ["_law_line_here"] spGL := by
  refine F.ok sc_law_good_line (fun vs H Q E h => ?_) (fun cdv A outer s H vs Q E hr h => ?_)
  · obtain ⟨x, rfl, _⟩ := h
    rfl
  · obtain ⟨x, rfl, hx, q⟩ := h
    refine ⟨_, (pss_cons (ps_set (i := 1) sc_law_good_line.nd rfl (.inl rfl) (pe_split (pv 0) pe_str))
    (pss_cons (ps_set (i := 2) sc_law_good_line.nd rfl (.inl rfl) (pe_slice sl_list (pv 1) (po_some pe_int) po_none))
    (pss_consM (ps_if (pt_cmpR op_ne (pe_ix ix_list (pv 1) pe_int (fun _ _ => rfl)) pe_str (nomark _)) (pss_cons (ps_if (pw_or (pt_cmpR op_lt (pe_callB call_len (by rfl) T.m_len (by decide +kernel) (pa_cons (pv 1) pa_nil)) pe_int (nomark _)) (pw_or (pt_not (pt_val (pe_cal C_law_good_id.cal (hr.mono (by decide)) (by rfl) pass0 (pa_cons (pe_ix ix_list (pv 1) pe_int (fun _ _ => rfl)) pa_nil)))) (pw_or1 (pt_cmpR op_eq (pe_ix ix_list (pv 1) pe_int (fun _ _ => rfl)) pe_str (nomark _))))).pt (pss_one (ps_ret pe_bl))
      pss_nil)
    (pss_cons (ps_if (pw_or (pt_not (pt_chain op_le op_le pe_int (pe_callB call_len (by rfl) T.m_len (by decide +kernel) (pa_cons (pe_ix ix_list (pv 1) pe_int (fun _ _ => rfl)) pa_nil)) pe_int)) (pw_or1 (pt_not (pt_val (pe_cal C_law_only.cal (hr.mono (by decide)) (by rfl) pass0 (pa_cons (pe_ix ix_list (pv 1) pe_int (fun _ _ => rfl)) (pa_cons pe_str pa_nil))))))).pt (pss_one (ps_ret pe_bl))
      pss_nil)
    (pss_one (ps_set (i := 2) sc_law_good_line.nd rfl (.inl rfl) (pe_slice sl_list (pv 1) (po_some pe_int) po_none)))))
      pss_nil)
    (pss_one (ps_ret (pe_and (pe_cmpR op_le (pe_callB call_len (by rfl) T.m_len (by decide +kernel) (pa_cons (pv 2) pa_nil)) pe_int (nomark _)) (pe_one (pe_cmpR op_eq (pe_callB call_len (by rfl) T.m_len (by decide +kernel) (pa_cons (pe_lc (own := [("_law_word_here", 3)]) (g := gName 3) (by rfl) sc_law_good_line.nd (pi_list (pv 2)) (blkOk_by (own := [("_law_word_here", 3)]) (N := ["_law_line_here", "_law_words", "_law_values", "_law_word_here"]) (sc := defScope s_law_good_line) (by decide +kernel))
      (fun _ _ _ _ _ => pg_name (i := 3) sc_law_good_line.nd rfl (.inl rfl)) (fun _ _ _ _ _ => pts_one (pt_not (pt_val (pe_cal C_law_good_value.cal (hr.mono (by decide)) (by rfl) pass0 (pa_cons (pv 3) pa_nil)))))
      (fun _ _ _ _ _ => (pv 3))) pa_nil)) pe_int (nomark _))))))))), ?_⟩
    refine ⟨.str x, rfl, ⟨_, rfl⟩, x, _, rfl, rfl, by decide +kernel, by rw [sizeLine_eq]; omega, fun W nW => ?_⟩
    obtain ⟨ss, sc⟩ := split_sum sp1 sp2 x
    have sn := split_ne sp1 sp2 x
    have sp : ∀ p ∈ Txt.split x SP1, p.length ≤ x.length := fun p hp => split_part sp1 sp2 hp
    unfold lineOk at q
    generalize hws : Txt.split x SP1 = ws at ss sc sn sp q
    have hws' : Txt.split x (Str.ofString " ") = ws := hws
    rw [hws']
    have s0 : Same H (upd H W (.lst (ws.map V.str))) := same_upd nW
    have sW : SqL K (upd H W (.lst (ws.map V.str))) W (ws.map V.str) := SqL.of upd_same
    obtain ⟨w0, r, rfl⟩ : ∃ w0 r, ws = w0 :: r := by
      cases ws with
      | nil => exact absurd rfl sn
      | cons a r => exact ⟨a, r, rfl⟩
    refine ⟨.ref W, rfl, 1, rfl, W, _, rfl, sW, fun R nR => ?_⟩
    rw [show cutV ((w0 :: r).map V.str) (some 1) none = r.map V.str from cut_from _ 1]
    have s1 := s0.trans (same_upd (o := .lst (r.map V.str)) nR)
    have sW1 := (same_upd (o := .lst (r.map V.str)) nR).seq sW
    have eR : (upd (upd H W (.lst ((w0 :: r).map V.str))) R (.lst (r.map V.str))) R = some (.lst (r.map V.str)) := upd_same
    generalize upd (upd H W (.lst ((w0 :: r).map V.str))) R (.lst (r.map V.str)) = H1 at s1 sW1 eR ⊢
    have bad : ∀ H2, Same H H2 → goodLine (w0 :: r) = false → Q (.bl false) H2 := fun H2 s2 h => by
      have hq := q H2 s2
      rw [h] at hq
      exact hq
    refine ⟨fun σ' H' => ∃ (R : Addr) (vs : List Str), σ' = [some (.str x), some (.ref W), some (.ref R), none] ∧ Same H H' ∧ H' R = some (.lst (vs.map V.str)) ∧ (∀ v ∈ vs, v ∈ w0 :: r) ∧ vs.length ≤ x.length + 1 ∧
      goodLine (w0 :: r) = (decide (vs.length ≤ 3) && vs.all goodValue), ?_, ?_⟩
    · refine ⟨.ref W, rfl, W, _, 0, .str w0, rfl, rfl, sW1, atI_nat (j := 0) rfl, rfl, _, rfl, ite_splitN (fun e => ?_) (fun e => ?_)⟩
      · have e0 : w0 ≠ NEW1 := fun z => e (by rw [z]; rfl)
        have l0 := sp w0 List.mem_cons_self
        refine ⟨.ref W, rfl, .ref W, _, rfl, .inl ⟨_, sW1, rfl⟩, _, _, rfl, rfl, _, rfl, ite_split (fun e3 => ?_) (fun e3 => ?_)⟩
        · refine iteT (bad _ s1 ?_)
          cases r with
          | nil => exact good_one e0
          | cons w1 vs =>
            rw [List.length_map, List.length_cons, List.length_cons] at e3
            omega
        obtain ⟨w1, vs, rfl⟩ : ∃ w1 vs, r = w1 :: vs := by
          cases r with
          | nil => exact absurd (show (((1 : Nat) : Int) < 2) by decide) e3
          | cons a r => exact ⟨a, r, rfl⟩
        have l1 := sp w1 (List.mem_cons_of_mem _ List.mem_cons_self)
        refine ⟨.ref W, rfl, W, _, 0, .str w0, rfl, rfl, sW1, atI_nat (j := 0) rfl, w0, rfl, by omega, fun H2 s2 => ⟨_, rfl, ?_⟩⟩
        have s3 := s1.trans s2
        have sW2 := s2.seq sW1
        cases hi : goodId w0 with
        | false =>
          refine iteT (bad _ s3 ?_)
          rw [good_other e0, hi]
          rfl
        | true =>
          refine iteF ⟨.ref W, rfl, W, _, 1, .str w1, rfl, rfl, sW2, atI_nat (j := 1) rfl, rfl, _, rfl, ite_split (fun e4 => ?_) (fun e4 => ?_)⟩
          · refine bad _ s3 ?_
            have e5 : w1 = NEW1 := by injection e4
            rw [good_other e0, decide_eq_true e5]
            simp
          have e5 : w1 ≠ NEW1 := fun z => e4 (by rw [z]; rfl)
          have gl : goodLine (w0 :: w1 :: vs) = (goodName w1 && (decide (vs.length ≤ 3) && vs.all goodValue)) := by
            rw [good_other e0, hi, decide_eq_false e5]
            rfl
          have badN : ∀ H2, Same H H2 → goodName w1 = false → Q (.bl false) H2 := fun H2 s2 h => bad H2 s2 (by rw [gl, h]; rfl)
          refine ⟨.ref W, rfl, W, _, 1, .str w1, rfl, rfl, sW2, atI_nat (j := 1) rfl, .str w1, _, rfl, ⟨by rw [sizeLine_eq]; omega, rfl⟩, _, _, rfl, rfl, _, rfl, ite_split (fun e6 => ⟨_, _, rfl, rfl, _, rfl, ite_splitN (fun e7 => ?_) (fun e7 => ?_)⟩) (fun e6 => ⟨_, rfl, ?_⟩)⟩
          · refine iteT (badN _ s3 ?_)
            unfold goodName
            rw [decide_eq_false (show ¬ w1.length ≤ 12 by omega)]
            simp
          · refine ⟨.ref W, rfl, W, _, 1, .str w1, rfl, rfl, sW2, atI_nat (j := 1) rfl, w1, LET, rfl, by omega, by decide +kernel, fun H4 s4 => ⟨_, rfl, ?_⟩⟩
            rw [show tl LET = lets from rfl]
            cases ho : onlyIn lets w1 with
            | false =>
              refine iteT (badN _ (s3.trans s4) ?_)
              unfold goodName
              rw [ho]
              simp
            | true =>
              have gn : goodName w1 = true := by
                unfold goodName
                rw [ho, decide_eq_true (show 1 ≤ w1.length by omega), decide_eq_true (show w1.length ≤ 12 by omega)]
                rfl
              rw [gn, Bool.true_and] at gl
              refine iteF ⟨.ref W, rfl, 2, rfl, W, _, rfl, s4.seq sW2, fun d nd => ?_⟩
              rw [show cutV ((w0 :: w1 :: vs).map V.str) (some 2) none = vs.map V.str from cut_from _ 2]
              refine ⟨d, vs, rfl, (s3.trans s4).trans (same_upd nd), upd_same, fun v hv => List.mem_cons_of_mem _ (List.mem_cons_of_mem _ hv), ?_, gl⟩
              rw [List.length_cons, List.length_cons] at sc
              omega
          · refine iteT (iteT (badN _ s3 ?_))
            unfold goodName
            rw [decide_eq_false (show ¬ 1 ≤ w1.length by omega)]
            simp
      · have e0 : w0 = NEW1 := by injection e
        subst e0
        refine ⟨R, r, rfl, s1, eR, fun v hv => List.mem_cons_of_mem _ hv, ?_, good_new⟩
        rw [List.length_cons] at sc
        omega
    · rintro σ' H2 ⟨R, vs, rfl, s2, eR, hm, lv, gl⟩
      have sR : SqL K H2 R (vs.map V.str) := SqL.of eR
      rw [gl] at q
      refine ⟨.ref R, rfl, .ref R, _, rfl, .inl ⟨_, sR, rfl⟩, _, _, rfl, rfl, _, rfl, ite_split (fun e => ?_) (fun e => ?_)⟩
      · rw [List.length_map] at e
        rw [decide_eq_true (show vs.length ≤ 3 by omega), Bool.true_and] at q
        refine ⟨.ref R, rfl, R, rfl, ⟨_, sR⟩, fun D hD => lcF (xs := vs.map V.str) (p := fun v => !gvV v) hD (by rw [List.length_map]; omega) (by show 3 < 4; decide) (goL sR) (stL sR) yL (xL sR) (fun i v H4 Q2 hi s4 k => ?_) fun H4 s4 hd => ?_⟩
        · obtain ⟨w, hw, rfl⟩ : ∃ w ∈ vs, v = V.str w := by
            obtain ⟨w, hw, e⟩ := List.mem_map.mp (List.mem_of_getElem? hi)
            exact ⟨w, hw, e.symm⟩
          have lw := sp w (hm w hw)
          exact ⟨_, rfl, w, rfl, by omega, fun H5 s5 => ⟨_, rfl, k H5 s5⟩⟩
        · refine ⟨.ref D, _, rfl, .inl ⟨_, SqL.of hd, rfl⟩, rfl, ?_⟩
          rw [none_out, all_gv]
          exact q H4 (s2.trans s4)
      · rw [List.length_map] at e
        rw [decide_eq_false (show ¬ vs.length ≤ 3 by omega), Bool.false_and] at q
        exact q H2 s2

/-! ### _law_word_read -/
abbrev s_law_word_read : Stmt := topS 39
theorem sc_law_word_read : FnScope ["_law_word_here", "e", "_law_value_here"] ["_law_word_here"] (defScope s_law_word_read) := ⟨rfl, rfl, rfl, by decide +kernel, rfl, by decide +kernel, by decide +kernel⟩
/-- what the handlers ask of BadLine -/
structure Exs (K : PySem.W.Frag) (C : Addr) : Prop where
  xf : XfC K C
  exm : PySem.W.exmOne K (.ref C) (.ref C) = some true
theorem passes_slots {X : Cx} {W : WX} (tk : L2N.Takes X W) : ∀ σ, PassesAt (L2N.CX X.prog X.w) X σ (fun cls d H => W cls d σ H) := fun _ _ _ _ e s' I c => tk e s' (L2N.XE.of_call I (fun _ _ _ h => h) c)
def spWR : Sp := fun vs H Q _ => ∃ x : Str, vs = [.str x] ∧ x.length ≤ 1000000 ∧ ∀ H', Same H H' → Q (.bl true) H'
theorem ok_word_read {f : Addr} {fd : FuncData} (T : Txt mg t1 t2 t3 t4 t5) (B : Bad P w K mg base CB) (Ex : Exs K CB) (F : Fun K "_law_word_read" "_law_word_read" s_law_word_read f fd) (C_parse_value : CalD P w K mg base (L2N.CX P w) 5 "parse_value" ["text", "place"] (spPV CB))
    (C_law_good_value : CalW P w K mg base 3 "_law_good_value" ["_law_word_here"] spGV) (C_format_value : Cal P w K mg base CX0 1 "format_value" ["value"] spFV) : FnOk P w K mg base CX0 6 f fd ["_law_word_here"] spWR := by
  refine F.ok sc_law_word_read (fun vs H Q E h => ?_) (fun cdv A outer s H vs Q E hr h => ?_)
  · obtain ⟨x, rfl, _⟩ := h
    rfl
  · obtain ⟨x, rfl, hx, q⟩ := h
    refine ⟨_, pss_cons (L2N.ps_try_as (i := 1) rfl rfl sc_law_word_read.nd rfl rfl ⟨by rfl, by decide, .inl B.mgC⟩ takes_none
        (fun W pn xe tkW _ => pss_one (ps_set (i := 2) sc_law_word_read.nd rfl (.inl rfl) (pe_calD C_parse_value (hr.mono (by decide)) (by rfl) (passes_slots tkW) (pa_cons (pv 0) pa_nil))))
        (fun a oe cls d pn hz hf => pss_one (ps_ret (pe_and (pe_cmp (pc_isN (pe_xf Ex.xf B.oc.pl hz.zc hf (pv 1)))) (pe_one (pe_not (pe_calW C_law_good_value (L2H.RoomH.mono (L2H.roomH_mark hr _) (by decide)) (.inr (hot_suite hz hf)) (by rfl) (pa_cons (pv 0) pa_nil))))))))
      (pss_one (ps_ret (pe_and (pe_cal C_law_good_value.cal (hr.mono (by decide)) (by rfl) pass0 (pa_cons (pv 0) pa_nil)) (pe_one (pe_cmpR op_eq (pe_cal C_format_value (hr.mono (by decide)) (by rfl) pass0 (pa_cons (pv 2) pa_nil)) (pv 0) (nomark _)))))), ?_⟩
    refine ⟨.str x, rfl, x, .non, rfl, hx, fun g H1 s1 => ?_, fun g d H1 s1 e1 => ⟨true, Ex.exm, fun _ a na => ?_, fun z => nomatch z⟩⟩
    · refine ⟨.str x, rfl, x, rfl, hx, fun H2 s2 => ⟨_, rfl, ?_⟩⟩
      rw [g]
      refine iteT ⟨_, rfl, valOf x, rfl, (val_ok g).le hx, .str x, rfl, rfl, ?_⟩
      rw [fmt_back g, decide_eq_true rfl]
      exact q H2 (s1.trans s2)
    · refine ⟨.ref a, rfl, rfl, rfl, d, badFs .non, .non, rfl, e1, rfl, true, rfl, iteT ⟨.str x, rfl, x, rfl, hx, fun H2 s2 => ⟨_, rfl, ?_⟩⟩⟩
      rw [g]
      exact q H2 (s1.trans s2)
end
end TK

/-! TL2: law. -/
namespace TK
open PySem PySem.Spec PyProof.Rows L2
theorem psst_consM {X : Cx} {st : Stmt} {rest : List Stmt} {t u : TS} (h1 : PST X st t) (h2 : PSsT X rest u) : PSsT X (st :: rest) (tSeqM t u) := by
  intro pins s σ H D h0 I h
  obtain ⟨M, h, k⟩ := h
  refine wpAny_execs_cons (wpAny_mono (PySem.wpAny_toks (h1 pins s σ H { D with nx := M } h0 I h)) (fun f s1 q => ?_) fun _ _ x => x.2)
  obtain ⟨hk, q⟩ := q
  cases f with
  | next =>
    obtain ⟨σ', H', I', q⟩ := q
    exact h2 pins s1 σ' H' D (Nat.le_trans h0 hk) I' (k σ' H' q)
  | ret v => exact q
  | brk => exact q
  | cont => exact q
/-- a list made over a range, the stream drawn from meanwhile; what is said of the items is of the heap at hand -/
theorem lcS_heap {Pd : Hp → V → Prop} {n slot : Nat} {vs : List Nat} {te : TE} {σ : L2.St} {H1 : Hp} {D p : Addr} {Qd : Hp → Prop} (hD : H1 D = none) (hp : Strm H1 p) (hn : n ≤ 1000)
    (mono : ∀ H H' v, (∀ b zs, H b = some (.tup zs) → H' b = some (.tup zs)) → Pd H v → Pd H' v)
    (step : ∀ (i : Nat) (H : Hp) (Q2 : VK), i < n → But p H1 H → (∀ y H4, Pd H4 y → But p H H4 → Q2 y H4) → te ((wipe σ [slot]).set slot (some (.int (0 + i)))) H Q2)
    (done : ∀ (xs : List V) (H' : Hp), xs.length = n → (∀ x ∈ xs, Pd H' x) → But p H1 H' → H' D = some (.lst xs) → Qd H') (hv : vs = [slot] := by rfl) :
    ∃ W : Nat → Nat → Hp → Prop, (∃ m, W 0 m (upd H1 D (.lst []))) ∧ ∀ i m H, W i m H →
      ((Itr 0 n).stop i H ∧ Qd H) ∨ ((Itr 0 n).go i H ∧ ∃ Nx : Hp → Prop, (∀ H', Nx H' → ∃ m', m' < m ∧ W (i + 1) m' H') ∧ ∀ x H', (Itr 0 n).yld i H x H' → gName slot x (wipe σ vs) H' fun σ2 H2 => wipe σ2 vs = wipe σ vs ∧ tYes σ2 H2 fun b H3 =>
        if b = true then te σ2 H3 fun y H4 => ∃ acc, H4 D = some (.lst acc) ∧ acc.length < sizeLine ∧ Nx (upd H4 D (.lst (acc ++ [y]))) else Nx H3) := by
  subst hv
  have neD : D ≠ p := (hp.ne hD).symm
  have ne1 : ∀ b o, H1 b = some o → b ≠ D := fun b o e => ne_of_none e hD
  refine lc_range (lo := 0) (fun i H => But p H1 H ∧ ∃ xs : List V, xs.length = i ∧ (∀ x ∈ xs, Pd H x) ∧ H D = some (.lst xs)) ⟨(But.refl hp).new hD, [], rfl, (fun x hx => by cases hx), upd_same⟩ (fun i H hi hP => ?_) fun H hP => ?_
  · obtain ⟨b, xs, hl, hx, hd⟩ := hP
    refine ⟨?_, ?_⟩
    · show (((wipe σ []).set slot none).set slot (some (V.int (0 + i)))).set slot none = (wipe σ []).set slot none
      simp [List.set_set]
    · dsimp only [tYes]
      rw [if_pos rfl]
      refine step i H _ hi b fun y H4 py b4 => ?_
      have hd4 : H4 D = some (.lst xs) := b4.1 D _ neD hd
      have t0 : ∀ c zs, H c = some (.tup zs) → H4 c = some (.tup zs) := fun c zs e => b4.1 c _ (b.2.tup_ne e) e
      have t1 : ∀ c zs, H4 c = some (.tup zs) → (upd H4 D (.lst (xs ++ [y]))) c = some (.tup zs) := fun c zs e => (upd_ne (fun q => by rw [q, hd4] at e; cases e)).trans e
      refine ⟨xs, hd4, ?_, ⟨fun c o hc e => ?_, ?_⟩, xs ++ [y], ?_, fun x hx' => ?_, upd_same⟩
      · rw [sizeLine_eq]
        omega
      · rw [upd_ne (ne1 c o e)]
        exact (b.trans b4).1 c o hc e
      · obtain ⟨ns, e⟩ := b4.2
        exact ⟨ns, (upd_ne neD.symm).trans e⟩
      · rw [List.length_append, hl]
        rfl
      · rcases List.mem_append.mp hx' with hx' | hx'
        · exact mono _ _ _ t1 (mono _ _ _ t0 (hx x hx'))
        · rw [List.mem_singleton.mp hx']
          exact mono _ _ _ t1 py
  · obtain ⟨b, xs, hl, hx, hd⟩ := hP
    exact done xs H hl hx b hd
theorem filter_first {p : V → Bool} : ∀ {xs : List V} {i : Nat} {x : V}, xs[i]? = some x → p x = true → (∀ j y, j < i → xs[j]? = some y → p y = false) → ∃ r, xs.filter p = x :: r
  | [], i, x, h, _, _ => by simp at h
  | a :: r, 0, x, h, hp, _ => by
    have e : a = x := by simpa using h
    rw [e, List.filter_cons_of_pos hp]
    exact ⟨_, rfl⟩
  | a :: r, i + 1, x, h, hp, g => by
    have ga : p a = false := g 0 a (Nat.succ_pos _) rfl
    rw [List.filter_cons_of_neg (by rw [ga]; decide)]
    exact filter_first (xs := r) (by simpa using h) hp fun j y hj hy => g (j + 1) y (Nat.succ_lt_succ hj) (by simpa using hy)
def badV (ls : List Str) : V → Bool
  | .int k => !((ls[k.toNat]?).map lineOk).getD true
  | _ => false
theorem badV_at {ls : List Str} {i : Nat} {l : Str} (h : ls[i]? = some l) : badV ls (.int (i : Int)) = !lineOk l := by
  show (!((ls[((i : Int)).toNat]?).map lineOk).getD true) = _
  rw [Int.toNat_natCast, h]
  rfl
theorem upto_get {n i : Nat} {v : V} (h : (upto n)[i]? = some v) : v = .int (i : Int) ∧ i < n := by
  unfold upto at h
  rw [List.getElem?_map] at h
  cases e : (List.range n)[i]? with
  | none => rw [e] at h; cases h
  | some c =>
    rw [e] at h
    obtain ⟨h1, h2⟩ := List.getElem?_eq_some_iff.mp e
    rw [List.getElem_range] at h2
    rw [List.length_range] at h1
    subst h2
    exact ⟨(Option.some.inj h).symm, h1⟩
theorem upto_at {n i : Nat} (h : i < n) : (upto n)[i]? = some (.int (i : Int)) := by
  unfold upto
  rw [List.getElem?_map, List.getElem?_range h]
  rfl
theorem bad_none {ls : List Str} (h : ls.all lineOk = true) : (upto ls.length).filter (badV ls) = [] := by
  rw [List.filter_eq_nil_iff]
  intro v hv
  obtain ⟨i, hi⟩ := List.mem_iff_getElem?.mp hv
  obtain ⟨e, hl⟩ := upto_get hi
  rw [e, badV_at (List.getElem?_eq_getElem hl), List.all_eq_true.mp h _ (List.getElem_mem hl)]
  decide
theorem bad_some {ls : List Str} {i : Nat} {l : Str} (h : ls[i]? = some l) (b : lineOk l = false) (g : ∀ l' ∈ ls.take i, lineOk l' = true) : ∃ r, (upto ls.length).filter (badV ls) = .int (i : Int) :: r := by
  have hi := (List.getElem?_eq_some_iff.mp h).1
  refine filter_first (upto_at hi) (by rw [badV_at h, b]; rfl) fun j y hj hy => ?_
  obtain ⟨e, hl⟩ := upto_get hy
  rw [e, badV_at (List.getElem?_eq_getElem hl)]
  have hm : ls[j] ∈ ls.take i := by
    refine List.mem_iff_getElem?.mpr ⟨j, ?_⟩
    rw [List.getElem?_take_of_lt hj]
    exact List.getElem?_eq_getElem hl
  rw [g _ hm]
  rfl
def bnd : Nat → Nat
  | 0 => 2406
  | 1 => 15436
  | _ => 93616
theorem joins_back (x : Str) : Txt.join NL1 (((linesOf x).map fun l => Txt.split l SP1).map (Txt.join SP1)) = x ∧ ((((linesOf x).map fun l => Txt.split l SP1).map (Txt.join SP1)).map (·.length)).sum ≤ x.length := by
  have e : (((linesOf x).map fun l => Txt.split l SP1).map (Txt.join SP1)) = linesOf x := by
    rw [List.map_map]
    have f : (Txt.join SP1 ∘ fun l => Txt.split l SP1) = id := by
      funext l
      exact join_split sp1 sp2 l
    rw [f, List.map_id]
  rw [e]
  unfold linesOf
  by_cases h : x = Str.empty
  · rw [if_pos h, h]
    exact ⟨rfl, Nat.zero_le _⟩
  · rw [if_neg h]
    exact ⟨join_split nl1 nl2 x, (split_sum nl1 nl2 x).1⟩
section
variable {P : Program} {w : World} {K : PySem.W.Frag} {mg : Str → Option Value} {base : Heap} {t1 t2 t3 t4 t5 : Tok} {CB : Addr}
abbrev s_law : Stmt := topS 40
theorem sc_law : FnScope ["_law_script", "_law_stream_here", "_law_kinds_here", "_law_talk", "_law_k", "_law_text_here", "_law_words", "_law_lines", "_law_bad", "_law_place", "e", "_law_actual", "_law_request_here"] ["_law_script"] (defScope s_law) := ⟨rfl, rfl, rfl, by decide +kernel, rfl, by decide +kernel, by decide +kernel⟩
def spLaw (K : PySem.W.Frag) : Sp := fun vs H Q _ => ∃ (a : Addr) (ns : List Int), vs = [.ref a] ∧ SqL K H a (ns.map V.int) ∧ ns.length ≤ 63 ∧ ∀ H', Q (.bl true) H'
def TupR (H : Hp) (v : V) : Prop := ∃ (a : Addr) (xs : List V), v = .ref a ∧ H a = some (.tup xs) ∧ ReqV xs
theorem ok_law {f : Addr} {fd : FuncData} (T : Txt mg t1 t2 t3 t4 t5) (B : Bad P w K mg base CB) (Ex : Exs K CB) (F : Fun K "law" "law" s_law f fd) (C_law_stream : Cal P w K mg base CX0 2 "_law_stream" ["_law_script", "_law_count"] (spStream K))
    (C_law_kinds : Cal P w K mg base CX0 3 "_law_kinds" ["_law_stream_here"] spKinds) (C_law_take : Cal P w K mg base CX0 1 "_law_take" ["_law_stream_here", "_law_bound"] spTake)
    (C_law_request : Cal P w K mg base CX0 5 "_law_request" ["_law_kinds_here", "_law_stream_here"] spRequest) (C_law_line : Cal P w K mg base CX0 2 "_law_line" ["_law_request_here"] spLine)
    (C_law_changed : Cal P w K mg base CX0 3 "_law_changed" ["_law_text_here", "_law_stream_here"] spChanged) (C_law_word_read : Cal P w K mg base CX0 6 "_law_word_read" ["_law_word_here"] spWR)
    (C_law_good_line : Cal P w K mg base CX0 4 "_law_good_line" ["_law_line_here"] spGL) (C_parse_talk : Cal P w K mg base (L2N.CX P w) 7 "parse_talk" ["text"] (spPT CB))
    (C_format_talk : Cal P w K mg base CX0 3 "format_talk" ["talk"] spFT) (C_parse_request : CalD P w K mg base (L2N.CX P w) 6 "parse_request" ["line", "place"] (spPR CB)) : FnOk P w K mg base CX0 8 f fd ["_law_script"] (spLaw K) := by
  refine F.ok sc_law (fun vs H Q E h => ?_) (fun cdv A outer s H vs Q E hr h => ?_)
  · obtain ⟨a, ns, rfl, _⟩ := h
    rfl
  · obtain ⟨a, ns, rfl, ha, hl, q⟩ := h
    obtain ⟨fS, fdS, FS, mS, kS, bS⟩ := _root_.id C_law_stream
    refine ⟨_, (psst_first (i := 1) sc_law.nd rfl (.inr rfl) FS (hr.mono (by decide)) (by rfl) mS kS bS pass0 (pv 0)
    (psst_cons (PST.of (ps_set (i := 2) sc_law.nd rfl (.inr rfl) (pe_cal C_law_kinds (hr.mono (by decide)) (by rfl) pass0 (pa_cons (pv 1) pa_nil))))
    (psst_cons (PST.of (ps_setLc (i := 3) (own := [("_law_k", 4)]) (g := gName 4) (by rfl) sc_law.nd rfl rfl (sw_true rfl rfl rfl (by decide +kernel)) (pi_range1 (by rfl) T.m_range (pa_cons (pe_cal C_law_take (hr.mono (by decide)) (by rfl) pass0 (pa_cons (pv 1) (pa_cons pe_int pa_nil))) pa_nil)) (blkOk_by (own := [("_law_k", 4)]) (N := ["_law_script", "_law_stream_here", "_law_kinds_here", "_law_talk", "_law_k", "_law_text_here", "_law_words", "_law_lines", "_law_bad", "_law_place", "e", "_law_actual", "_law_request_here"]) (sc := defScope s_law) (by decide +kernel))
      (fun _ _ _ _ _ => pg_name (i := 4) sc_law.nd rfl (.inl rfl)) (fun _ _ _ _ _ => pts_nil)
      (fun _ _ _ _ _ => (pe_cal C_law_request (hr.mono (by decide)) (by rfl) pass0 (pa_cons (pv 2) (pa_cons (pv 1) pa_nil))))))
    (psst_cons (PST.of (ps_set (i := 5) sc_law.nd rfl (.inl rfl) (pe_join pe_str (pe_lc (own := [("_law_request_here", 12)]) (g := gName 12) (by rfl) sc_law.nd (pi_list (pv 3)) (blkOk_by (own := [("_law_request_here", 12)]) (N := ["_law_script", "_law_stream_here", "_law_kinds_here", "_law_talk", "_law_k", "_law_text_here", "_law_words", "_law_lines", "_law_bad", "_law_place", "e", "_law_actual", "_law_request_here"]) (sc := defScope s_law) (by decide +kernel))
      (fun _ _ _ _ _ => pg_name (i := 12) sc_law.nd rfl (.inl rfl)) (fun _ _ _ _ _ => pts_nil)
      (fun _ _ _ _ _ => (pe_cal C_law_line (hr.mono (by decide)) (by rfl) pass0 (pa_cons (pv 12) pa_nil)))))))
    (psst_consM (PST.of (ps_if (pt_cmpR op_gt (pe_cal C_law_take (hr.mono (by decide)) (by rfl) pass0 (pa_cons (pv 1) (pa_cons pe_int pa_nil))) pe_int (nomark _)) (pss_one (ps_for PassesOwn.never rfl (pi_range1 (by rfl) T.m_range (pa_cons (pe_op op_add pe_int (pe_cal C_law_take (hr.mono (by decide)) (by rfl) pass0 (pa_cons (pv 1) (pa_cons pe_int pa_nil)))) pa_nil)) (pg_name (i := 4) sc_law.nd rfl (.inl rfl))
      (pss_one (ps_set (i := 5) sc_law.nd rfl (.inl rfl) (pe_cal C_law_changed (hr.mono (by decide)) (by rfl) pass0 (pa_cons (pv 5) (pa_cons (pv 1) pa_nil)))))))
      pss_nil))
    (psst_cons (pst_set (i := 6) sc_law.nd rfl (.inl rfl) (pet_split (CwR.pet_replC (pv 5)) pe_str))
    (PSsT.of (pss_cons (ps_if (pt_not (pt_val (pe_cal C_law_word_read (hr.mono (by decide)) (by rfl) pass0 (pa_cons (pe_ix ix_list (pv 6) (pe_cal C_law_take (hr.mono (by decide)) (by rfl) pass0 (pa_cons (pv 1) (pa_cons (pe_callB call_len (by rfl) T.m_len (by decide +kernel) (pa_cons (pv 6) pa_nil)) pa_nil))) (fun _ _ => rfl)) pa_nil)))) (pss_one (ps_ret pe_bl))
      pss_nil)
    (pss_cons (ps_set (i := 7) sc_law.nd rfl (.inr rfl) (pe_lst pa_nil))
    (pss_consM (ps_if (pt_cmpR op_ne (pv 5) pe_str (nomark _)) (pss_one (ps_set (i := 7) sc_law.nd rfl (.inr rfl) (pe_split (pv 5) pe_str)))
      pss_nil)
    (pss_cons (ps_setLc (i := 8) (own := [("_law_k", 4)]) (g := gName 4) (by rfl) sc_law.nd rfl rfl (sw_true rfl rfl rfl (by decide +kernel)) (pi_range1 (by rfl) T.m_range (pa_cons (pe_callB call_len (by rfl) T.m_len (by decide +kernel) (pa_cons (pv 7) pa_nil)) pa_nil)) (blkOk_by (own := [("_law_k", 4)]) (N := ["_law_script", "_law_stream_here", "_law_kinds_here", "_law_talk", "_law_k", "_law_text_here", "_law_words", "_law_lines", "_law_bad", "_law_place", "e", "_law_actual", "_law_request_here"]) (sc := defScope s_law) (by decide +kernel))
      (fun _ _ _ _ _ => pg_name (i := 4) sc_law.nd rfl (.inl rfl)) (fun _ _ _ _ _ => pts_one (pt_not (pt_val (pe_cal C_law_good_line (hr.mono (by decide)) (by rfl) pass0 (pa_cons (pe_ix (show IxR _ (rIxL K) from ix_list) (pv 7) (pv 4) (fun _ _ => rfl)) pa_nil)))))
      (fun _ _ _ _ _ => (pv 4)))
    (pss_cons (ps_set (i := 9) sc_law.nd rfl (.inl rfl) (pe_un un_neg pe_int))
    (pss_consM (L2N.ps_try_as (i := 10) rfl rfl sc_law.nd rfl rfl ⟨by rfl, by decide, .inl B.mgC⟩ takes_none
      (fun W pn xe tkW _ => pss_one (ps_set (i := 11) sc_law.nd rfl (.inl rfl) (pe_calS C_parse_talk (hr.mono (by decide)) (by rfl) (passes_slots tkW) (pa_cons (pv 5) pa_nil))))
      (fun a oe cls d pn hz hf => pss_one (ps_set (i := 9) sc_law.nd rfl (.inl rfl) (pe_xf Ex.xf B.oc.pl hz.zc hf (pv 10)))))
    (pss_cons (ps_if (pt_cmpR op_eq (pe_callB call_len (by rfl) T.m_len (by decide +kernel) (pa_cons (pv 8) pa_nil)) pe_int (nomark _)) (pss_one (ps_ret (pe_and (pe_cmpR op_eq (pv 9) (pe_un un_neg pe_int) (nomark _)) (pe_and (pe_callB call_isi (by rfl) T.m_isinstance (by decide +kernel) (pa_cons (pv 11) (pa_cons (pe_bltn (v := .ty "list") (by rfl) T.m_list (by decide +kernel) rfl) pa_nil))) (pe_and (pe_cmpR op_eq (pe_callB call_len (by rfl) T.m_len (by decide +kernel) (pa_cons (pv 11) pa_nil)) (pe_callB call_len (by rfl) T.m_len (by decide +kernel) (pa_cons (pv 7) pa_nil)) (nomark _)) (pe_one (pe_cmpR op_eq (pe_cal C_format_talk (hr.mono (by decide)) (by rfl) pass0 (pa_cons (pv 11) pa_nil)) (pv 5) (nomark _))))))))
      pss_nil)
    (pss_cons (ps_if (pw_or (pt_val (pe_callB call_isi (by rfl) T.m_isinstance (by decide +kernel) (pa_cons (pv 9) (pa_cons (pe_bltn (v := .ty "bool") (by rfl) T.m_bool (by decide +kernel) rfl) pa_nil)))) (pw_or1 (pt_cmpR op_ne (pv 9) (pe_ix ix_list (pv 8) pe_int (fun _ _ => rfl)) (nomark _)))).pt (pss_one (ps_ret pe_bl))
      pss_nil)
    (pss_cons (L2N.ps_try_as (i := 10) rfl rfl sc_law.nd rfl rfl ⟨by rfl, by decide, .inl B.mgC⟩ takes_none
      (fun W pn xe tkW _ => pss_one (ps_expr (pe_calD C_parse_request (hr.mono (by decide)) (by rfl) (passes_slots tkW) (pa_cons (pe_ix (show IxR _ (rIxL K) from ix_list) (pv 7) (pe_ix (show IxR _ (rIxL K) from ix_list) (pv 8) pe_int (fun _ _ => rfl)) (fun _ _ => rfl)) pa_nil))))
      (fun a oe cls d pn hz hf => pss_one (ps_ret (pe_cmp (pc_isN (pe_xf Ex.xf B.oc.pl hz.zc hf (pv 10)))))))
    (pss_one (ps_ret pe_bl)))))))))))))))))), ?_⟩
    -- the stream, the kinds
    refine ⟨.ref a, rfl, a, 300, ns, rfl, ha, hl, by decide, by decide, fun p H1 s1 np hp => ?_⟩
    refine ⟨.ref p, rfl, p, rfl, hp, fun l H2 nl b2 hk => ?_⟩
    have nlp : l ≠ p := (hp.ne nl).symm
    -- the requests
    refine ⟨_, rfl, p, 7, rfl, by decide, b2.2, fun r3 H3 l3 u3 b3 => ⟨r3, rfl, by omega, by omega, fun D hD => lcS_heap (Pd := TupR) hD b3.2 (by omega) (fun H H' v hh ⟨a, xs, e, ex, rv⟩ => ⟨a, xs, e, hh _ _ ex, rv⟩)
      (fun i H Q2 hi b k => ⟨_, rfl, _, rfl, l, p, rfl, nlp, b.2, (hk.but b2.2 nlp b3).but b3.2 nlp b, fun c xs H' nc b' e rv => k _ H' ⟨c, xs, rfl, e, rv⟩ b'⟩) fun xs H4 lx hx b4 hd4 => ?_⟩⟩
    have sD : SqL K H4 D xs := SqL.of hd4
    have lx6 : xs.length ≤ 6 := by omega
    -- the text
    refine ⟨⟨_, rfl⟩, .ref D, rfl, D, rfl, ⟨_, sD⟩, fun D2 hD2 => lcR (xs := xs) (R := fun _ y => StrLe 400 y) hD2 (by omega) (goL sD) (stL sD) yL (xL sD) (fun i x H5 Q2 hi s5 k => ?_) fun ys H5 pr s5 hd5 => ?_⟩
    · obtain ⟨c, zs, rfl, ec, rv⟩ := hx x (List.mem_of_getElem? hi)
      exact ⟨_, rfl, c, zs, rfl, s5 _ _ ec, rv, fun t H' ht s' => k _ H' ⟨t, rfl, ht⟩ s'⟩
    have ly : ys.length ≤ 6 := by rw [← Paired.length pr]; exact lx6
    obtain ⟨zs, rfl, hz⟩ := strs_of (pairedR_len (fun _ _ r => r) pr)
    rw [List.length_map] at ly
    have lN : NL1.length = 1 := by decide +kernel
    have sz := sum_le 400 zs hz
    have lj := join_len NL1 zs
    rw [lN] at lj
    have hp5 : Strm H5 p := (But.of_same s5 b4.2).2
    refine ⟨NL1, D2, zs, rfl, rfl, .inl (SqL.of hd5), by rw [lN]; omega, ?_⟩
    have ht0 : (Txt.join NL1 zs).length ≤ 2406 := by omega
    generalize Txt.join NL1 zs = t0 at ht0 ⊢
    -- changed or not
    refine ⟨fun σ' H' => ∃ (y4 : Option V) (t : Str), σ' = [some (.ref a), some (.ref p), some (.ref l), some (.ref D), y4, some (.str t), none, none, none, none, none, none, none] ∧ t.length ≤ 93616 ∧ Strm H' p, ?_, ?_⟩
    · refine ⟨_, rfl, p, 6, rfl, by decide, hp5, fun r6 H6 l6 u6 b6 => ⟨_, _, rfl, rfl, _, rfl, ite_split (fun e => ?_) (fun e => ⟨_, _, rfl, by omega, b6.2⟩)⟩⟩
      refine ⟨_, rfl, p, 2, rfl, by decide, b6.2, fun r7 H7 l7 u7 b7 => ⟨_, _, rfl, rfl, _, rfl, by omega, by omega,
        for_range (lo := 0) (n := (1 + r7).toNat) (fun j σ' H' => ∃ (y4 : Option V) (t : Str), σ' = [some (.ref a), some (.ref p), some (.ref l), some (.ref D), y4, some (.str t), none, none, none, none, none, none, none] ∧ t.length ≤ bnd j ∧ Strm H' p)
        ⟨_, _, rfl, ht0, b7.2⟩ (fun j σ' H8 hj hP => ?_) fun σ' H8 hP => ?_⟩⟩
      · obtain ⟨y4, t, rfl, lt, hs⟩ := hP
        have c : j = 0 ∨ j = 1 := by omega
        have lb : t.length ≤ 20000 ∧ 6 * t.length + 1000 ≤ bnd (j + 1) := by
          rcases c with rfl | rfl
          · have z : t.length ≤ 2406 := lt
            refine ⟨by omega, ?_⟩
            show 6 * t.length + 1000 ≤ 15436
            omega
          · have z : t.length ≤ 15436 := lt
            refine ⟨by omega, ?_⟩
            show 6 * t.length + 1000 ≤ 93616
            omega
        exact ⟨.str t, rfl, _, rfl, t, p, rfl, lb.1, hs, fun t' H' ht' b' => ⟨_, _, rfl, Nat.le_trans ht' lb.2, b'.2⟩⟩
      · obtain ⟨y4, t, rfl, lt, hs⟩ := hP
        have c : (1 + r7).toNat = 1 ∨ (1 + r7).toNat = 2 := by omega
        refine ⟨_, _, rfl, ?_, hs⟩
        rcases c with c | c
        · rw [c] at lt
          have z : t.length ≤ 15436 := lt
          omega
        · rw [c] at lt
          exact lt
    · rintro σ' H6 ⟨y4, t, rfl, lt, hs⟩
      -- one word
      have lS : SP1.length = 1 := by decide +kernel
      have lr := repl_len (x := t) (y := NL1) (z := SP1) nl1
      rw [lS] at lr
      refine ⟨.str t, rfl, t, rfl, ?_, ⟨_, rfl⟩, _, _, rfl, rfl, by decide +kernel, ?_, fun W nW => ?_⟩
      · rw [show (Str.ofString " ").length = 1 from lS]
        omega
      · rw [sizeLine_eq]
        have lr' : (Txt.replace t (Str.ofString "\n") (Str.ofString " ")).length ≤ t.length * (1 + 1) := lr
        omega
      have lr' : (Txt.replace t (Str.ofString "\n") (Str.ofString " ")).length ≤ t.length * (1 + 1) := lr
      generalize Txt.replace t (Str.ofString "\n") (Str.ofString " ") = z at lr' ⊢
      have wn := split_ne sp1 sp2 z
      have wp : ∀ p ∈ Txt.split z SP1, p.length ≤ z.length := fun p hp => split_part sp1 sp2 hp
      generalize hws : Txt.split z SP1 = ws at wn wp
      have hws' : Txt.split z (Str.ofString " ") = ws := hws
      rw [hws']
      have sW : SqL K (upd H6 W (.lst (ws.map V.str))) W (ws.map V.str) := SqL.of upd_same
      have b6 := (But.refl hs).new (o := .lst (ws.map V.str)) nW
      have neW : W ≠ p := (hs.ne nW).symm
      have lw : 1 ≤ ws.length := List.length_pos_iff.mpr wn
      refine ⟨.ref W, rfl, _, rfl, .ref W, rfl, .ref W, _, rfl, .inl ⟨_, sW, rfl⟩, p, _, rfl, by rw [List.length_map]; omega, b6.2, fun r8 H8 l8 u8 b8 => ?_⟩
      rw [List.length_map] at u8
      obtain ⟨j, rfl⟩ : ∃ j : Nat, r8 = (j : Int) := ⟨r8.toNat, by omega⟩
      have hj : j < ws.length := by omega
      have wl := wp ws[j] (List.getElem_mem hj)
      refine ⟨W, _, (j : Int), .str ws[j], rfl, rfl, b8.seq neW sW, atI_nat (by rw [List.getElem?_map, List.getElem?_eq_getElem hj]; rfl), ws[j], rfl, by omega, fun H9 s9 => ⟨_, rfl, iteF ?_⟩⟩
      -- the lines
      refine ⟨Nat.zero_le _, fun L0 nL0 => ?_⟩
      have eL0 : (upd H9 L0 (.lst [])) L0 = some (.lst []) := upd_same
      generalize upd H9 L0 (.lst []) = H10 at eL0 ⊢
      refine ⟨fun σ' H' => ∃ (L : Addr), σ' = [some (.ref a), some (.ref p), some (.ref l), some (.ref D), y4, some (.str t), some (.ref W), some (.ref L), none, none, none, none, none] ∧ H' L = some (.lst ((linesOf t).map V.str)), ?_, ?_⟩
      · refine ⟨.str t, rfl, rfl, _, rfl, ite_splitN (fun e => ?_) (fun e => ?_)⟩
        · have e0 : t ≠ Str.empty := fun z => e (by rw [z]; rfl)
          rw [show linesOf t = Txt.split t NL1 from if_neg e0]
          exact ⟨.str t, rfl, ⟨_, rfl⟩, t, _, rfl, rfl, by decide +kernel, by rw [sizeLine_eq]; omega, fun L nL => ⟨L, rfl, upd_same⟩⟩
        · have e0 : t = Str.empty := by injection e
          rw [show linesOf t = [] from if_pos e0]
          exact ⟨L0, rfl, eL0⟩
      · rintro σ' H11 ⟨L, rfl, eL⟩
        have lp : ∀ l' ∈ linesOf t, l'.length ≤ t.length ∧ (linesOf t).length ≤ t.length + 1 := fun l' hl' => by
          unfold linesOf at hl' ⊢
          by_cases e0 : t = Str.empty
          · rw [if_pos e0] at hl'
            cases hl'
          · rw [if_neg e0] at hl' ⊢
            exact ⟨split_part nl1 nl2 hl', (split_sum nl1 nl2 t).2⟩
        have ln : (linesOf t).length ≤ t.length + 1 := by
          cases e : linesOf t with
          | nil => exact Nat.zero_le _
          | cons x r =>
            have := (lp x (by rw [e]; exact List.mem_cons_self)).2
            rw [e] at this
            exact this
        have jb := joins_back t
        generalize hls : linesOf t = ls at eL lp ln jb
        have sL : SqL K H11 L (ls.map V.str) := SqL.of eL
        -- the bad lines' places
        refine ⟨.ref L, rfl, .ref L, _, rfl, .inl ⟨_, sL, rfl⟩, _, rfl, by omega, by rw [List.length_map]; omega, fun Bd hBd => ?_⟩
        rw [show (((ls.map V.str).length : Nat) : Int).toNat = ls.length by rw [List.length_map]; rfl]
        refine lcF (xs := upto ls.length) (p := badV ls) hBd (by rw [upto_len]; omega) (by show 4 < 13; decide) (goR _) (stR _) (yR _) (xR _) (fun i v H12 Q2 hi s12 k => ?_) fun H12 s12 eB => ?_
        · obtain ⟨rfl, hil⟩ := upto_get hi
          have hg := List.getElem?_eq_getElem hil
          have ll := (lp ls[i] (List.getElem_mem hil)).1
          rw [badV_at hg] at k
          exact ⟨.ref L, rfl, .int (i : Int), rfl, L, _, (i : Int), .str ls[i], rfl, rfl, s12.seq sL, atI_nat (by rw [List.getElem?_map, hg]; rfl), ls[i], rfl, by omega, fun H13 s13 => ⟨_, rfl, k H13 s13⟩⟩
        have eL12 : H12 L = some (.lst (ls.map V.str)) := s12 _ _ eL
        -- the place
        refine ⟨1, rfl, ?_⟩
        -- parse_talk
        refine ⟨fun σ' H' => H' L = some (.lst (ls.map V.str)) ∧ H' Bd = some (.lst ((upto ls.length).filter (badV ls))) ∧
          ((ls.all lineOk = true ∧ ∃ (A : Addr) (as : List Addr), σ' = [some (.ref a), some (.ref p), some (.ref l), some (.ref D), y4, some (.str t), some (.ref W), some (.ref L), some (.ref Bd), some (.int (-1)), none, some (.ref A), none] ∧ H' A = some (.lst (as.map V.ref)) ∧ LinesAt H' as (ls.map fun l => Txt.split l SP1)) ∨
           ∃ (i : Nat) (l0 : Str), ls[i]? = some l0 ∧ lineOk l0 = false ∧ (∀ l' ∈ ls.take i, lineOk l' = true) ∧ σ' = [some (.ref a), some (.ref p), some (.ref l), some (.ref D), y4, some (.str t), some (.ref W), some (.ref L), some (.ref Bd), some (.int (i : Int)), none, none, none]), ?_, ?_⟩
        · refine ⟨.str t, rfl, t, rfl, by omega, fun g A as H' s' eA la => ?_, fun i l0 hi hb hg d H' s' e => ⟨true, Ex.exm, fun _ x nx => ?_, fun z => nomatch z⟩⟩
          · rw [hls] at g la
            exact ⟨s' _ _ eL12, s' _ _ eB, .inl ⟨g, A, as, rfl, eA, la⟩⟩
          · rw [hls] at hi hg
            exact ⟨.ref x, rfl, rfl, rfl, d, badFs (.int (i : Int)), .int (i : Int), rfl, e, rfl, s' _ _ eL12, s' _ _ eB, .inr ⟨i, l0, hi, hb, hg, rfl⟩⟩
        · rintro σ' H13 ⟨eL13, eB13, ⟨g, A, as, rfl, eA, la⟩ | ⟨i, l0, hi, hb, hg, rfl⟩⟩
          · have sB : SqL K H13 Bd ((upto ls.length).filter (badV ls)) := SqL.of eB13
            have sL13 : SqL K H13 L (ls.map V.str) := SqL.of eL13
            rw [bad_none g] at sB
            have eas : as.length = ls.length := by
              have := Paired.length la
              rw [List.length_map] at this
              exact this
            refine ⟨.ref Bd, rfl, .ref Bd, _, rfl, .inl ⟨_, sB, rfl⟩, rfl, _, rfl, ite_split (fun _ => ?_) (fun e => absurd rfl e)⟩
            refine ⟨_, rfl, 1, rfl, rfl, _, rfl, ite_split (fun _ => ?_) (fun e => absurd rfl e)⟩
            refine ⟨_, rfl, .ref A, .ty "list", .type "list", .type "list", true, rfl, .ty _, .base (.lst eA), kit_ty (by decide +kernel), true, rfl, iteT ?_⟩
            refine ⟨_, rfl, .ref A, _, rfl, .inl ⟨_, SqL.of eA, rfl⟩, _, rfl, .ref L, _, rfl, .inl ⟨_, sL13, rfl⟩, rfl, _, rfl, ite_split (fun _ => ?_) (fun e => absurd (by rw [List.length_map, List.length_map, eas]) e)⟩
            refine ⟨_, rfl, A, as, _, rfl, eA, la, by omega, by omega, fun H14 s14 => ⟨_, rfl, rfl, ?_⟩⟩
            rw [jb.1, decide_eq_true rfl]
            exact q H14
          · obtain ⟨r, hr⟩ := bad_some hi hb hg
            rw [hr] at eB13
            have sB : SqL K H13 Bd (.int (i : Int) :: r) := SqL.of eB13
            have sL13 : SqL K H13 L (ls.map V.str) := SqL.of eL13
            have ll := (lp l0 (List.mem_of_getElem? hi)).1
            refine ⟨.ref Bd, rfl, .ref Bd, _, rfl, .inl ⟨_, sB, rfl⟩, rfl, _, rfl, ite_split (fun e => ?_) (fun _ => ?_)⟩
            · injection e with e
              rw [List.length_cons] at e
              omega
            refine ⟨_, rfl, .int (i : Int), .ty "bool", .type "int", .type "bool", false, rfl, .ty _, .base (.int _), kit_ty (by decide +kernel), false, rfl, iteF ?_⟩
            refine ⟨_, rfl, .ref Bd, rfl, Bd, _, 0, .int (i : Int), rfl, rfl, sB, atI_nat (j := 0) rfl, rfl, _, rfl, ite_splitN (fun e => absurd rfl e) (fun _ => ?_)⟩
            refine ⟨.ref L, rfl, .ref Bd, rfl, Bd, _, 0, .int (i : Int), rfl, rfl, sB, atI_nat (j := 0) rfl, L, _, (i : Int), .str l0, rfl, rfl, sL13, atI_nat (by rw [List.getElem?_map, hi]; rfl), l0, .non, rfl, by omega, fun g => ?_, fun _ d H' s' e => ⟨true, Ex.exm, fun _ x nx => ?_, fun z => nomatch z⟩⟩
            · have z : lineOk l0 = true := g
              rw [hb] at z
              cases z
            · exact ⟨.ref x, rfl, rfl, rfl, d, badFs .non, .non, rfl, e, rfl, q H'⟩
end
end TK

/-! TE1: all that the top has written, put together. -/
namespace TK
open PySem PySem.Spec PyProof.Rows L2
theorem all_given {K : PySem.W.Frag} {fd : FuncData} {ps : List Str} {v : V} (h : ∃ ds, Vals ([v].drop 1) ds ∧ Binds K fd ps ds) : Binds K fd ps [] := by
  obtain ⟨ds, r, b⟩ := h
  cases r
  exact b
theorem all_mk {P : Program} {w : World} {K : PySem.W.Frag} {h : Heap} {mg : Str → Option Value} {fa CT CB f1 f2 f3 f4 f5 f6 f7 f8 f9 f10 f11 f12 f13 f14 f15 f16 f17 f18 f19 f20 f21 f22 f23 f24 f25 f26 f27 f28 f29 f91 f92 : Addr} (X : K.In h) (G : h.Ns mainGlobals mg) (hfa : mg "law" = some (.ref fa))
    {nm q : Str} {N : Addr} {bs bm : List Value} {sn : List Str} {sub : List Value} {ab : Bool} {col : Option Bool} {dd : Option Addr} {m0 m1 m2 m3 m5 : Option Value} {t1 t2 t3 t4 t5 : Tok}
    {od1 an1 od2 an2 od3 an3 od4 an4 od5 an5 od6 an6 od7 an7 od8 an8 od9 an9 od10 an10 od11 an11 od12 an12 od13 an13 od14 an14 od15 an15 od16 an16 od17 an17 od18 an18 od19 an19 od20 an20 od21 an21 od22 an22 od23 an23 od24 an24 od25 an25 od26 an26 od27 an27 od28 an28 od29 an29 od91 an91 od92 an92 : Option Addr} {sl1 sl2 sl3 sl4 sl5 sl6 sl7 sl8 sl9 sl10 sl11 sl12 sl13 sl14 sl15 sl16 sl17 sl18 sl19 sl20 sl21 sl22 sl23 sl24 sl25 sl26 sl27 sl28 sl29 sl91 sl92 : Array (Option Value)} {oc1 kV1 dc1 pm1 cd1 ct1 oc2 kV2 dc2 pm2 cd2 ct2 oc3 kV3 dc3 pm3 cd3 ct3 oc4 kV4 dc4 pm4 cd4 ct4 oc5 kV5 dc5 pm5 cd5 ct5 oc6 kV6 dc6 pm6 cd6 ct6 oc7 kV7 dc7 pm7 cd7 ct7 oc8 kV8 dc8 pm8 cd8 ct8 oc9 kV9 dc9 pm9 cd9 ct9 oc10 kV10 dc10 pm10 cd10 ct10 oc11 kV11 dc11 pm11 cd11 ct11 oc12 kV12 dc12 pm12 cd12 ct12 oc13 kV13 dc13 pm13 cd13 ct13 oc14 kV14 dc14 pm14 cd14 ct14 oc15 kV15 dc15 pm15 cd15 ct15 oc16 kV16 dc16 pm16 cd16 ct16 oc17 kV17 dc17 pm17 cd17 ct17 oc18 kV18 dc18 pm18 cd18 ct18 oc19 kV19 dc19 pm19 cd19 ct19 oc20 kV20 dc20 pm20 cd20 ct20 oc21 kV21 dc21 pm21 cd21 ct21 oc22 kV22 dc22 pm22 cd22 ct22 oc23 kV23 dc23 pm23 cd23 ct23 oc24 kV24 dc24 pm24 cd24 ct24 oc25 kV25 dc25 pm25 cd25 ct25 oc26 kV26 dc26 pm26 cd26 ct26 oc27 kV27 dc27 pm27 cd27 ct27 oc28 kV28 dc28 pm28 cd28 ct28 oc29 kV29 dc29 pm29 cd29 ct29 oc91 kV91 dc91 pm91 cd91 ct91 oc92 kV92 dc92 pm92 cd92 ct92 : Value}
    {d7 d8 d91 d92 : Addr} {oe7 oe8 oe91 oe92 : Value} {pe7 pe8 pe91 pe92 : Option Addr} {ne7 ne8 ne91 ne92 : Nat} {se7 se8 se91 se92 : Array (Option Value)}
    (a1 : PySem.W.nsIn K mainGlobals "is_text" = some (some (.ref f1)))
    (l1 : K.lookup f1 = some ⟨oc1, od1, .func (PySem.W.fnOf "is_text" "is_text" (defArgs s_is_text) (defBody s_is_text) (defScope s_is_text) .none kV1 dc1 pm1 an1 cd1 ct1), sl1⟩)
    (c1 : PySem.W.codeIn K cd1 "is_text" = true)
    (k1 : PySem.W.keepIn K (.ref f1) = true)
    (a2 : PySem.W.nsIn K mainGlobals "is_name" = some (some (.ref f2)))
    (l2 : K.lookup f2 = some ⟨oc2, od2, .func (PySem.W.fnOf "is_name" "is_name" (defArgs s_is_name) (defBody s_is_name) (defScope s_is_name) .none kV2 dc2 pm2 an2 cd2 ct2), sl2⟩)
    (c2 : PySem.W.codeIn K cd2 "is_name" = true)
    (k2 : PySem.W.keepIn K (.ref f2) = true)
    (a3 : PySem.W.nsIn K mainGlobals "format_value" = some (some (.ref f3)))
    (l3 : K.lookup f3 = some ⟨oc3, od3, .func (PySem.W.fnOf "format_value" "format_value" (defArgs s_format_value) (defBody s_format_value) (defScope s_format_value) .none kV3 dc3 pm3 an3 cd3 ct3), sl3⟩)
    (c3 : PySem.W.codeIn K cd3 "format_value" = true)
    (k3 : PySem.W.keepIn K (.ref f3) = true)
    (a4 : PySem.W.nsIn K mainGlobals "format_request" = some (some (.ref f4)))
    (l4 : K.lookup f4 = some ⟨oc4, od4, .func (PySem.W.fnOf "format_request" "format_request" (defArgs s_format_request) (defBody s_format_request) (defScope s_format_request) .none kV4 dc4 pm4 an4 cd4 ct4), sl4⟩)
    (c4 : PySem.W.codeIn K cd4 "format_request" = true)
    (k4 : PySem.W.keepIn K (.ref f4) = true)
    (a5 : PySem.W.nsIn K mainGlobals "format_talk" = some (some (.ref f5)))
    (l5 : K.lookup f5 = some ⟨oc5, od5, .func (PySem.W.fnOf "format_talk" "format_talk" (defArgs s_format_talk) (defBody s_format_talk) (defScope s_format_talk) .none kV5 dc5 pm5 an5 cd5 ct5), sl5⟩)
    (c5 : PySem.W.codeIn K cd5 "format_talk" = true)
    (k5 : PySem.W.keepIn K (.ref f5) = true)
    (a6 : PySem.W.nsIn K mainGlobals "parse_id" = some (some (.ref f6)))
    (l6 : K.lookup f6 = some ⟨oc6, od6, .func (PySem.W.fnOf "parse_id" "parse_id" (defArgs s_parse_id) (defBody s_parse_id) (defScope s_parse_id) .none kV6 dc6 pm6 an6 cd6 ct6), sl6⟩)
    (c6 : PySem.W.codeIn K cd6 "parse_id" = true)
    (k6 : PySem.W.keepIn K (.ref f6) = true)
    (a7 : PySem.W.nsIn K mainGlobals "parse_value" = some (some (.ref f7)))
    (l7 : K.lookup f7 = some ⟨oc7, od7, .func (PySem.W.fnOf "parse_value" "parse_value" (defArgs s_parse_value) (defBody s_parse_value) (defScope s_parse_value) (.ref d7) kV7 dc7 pm7 an7 cd7 ct7), sl7⟩)
    (c7 : PySem.W.codeIn K cd7 "parse_value" = true)
    (k7 : PySem.W.keepIn K (.ref f7) = true)
    (e7 : K.lookup d7 = some ⟨oe7, pe7, .seq #[Value.none] ne7, se7⟩)
    (a8 : PySem.W.nsIn K mainGlobals "parse_request" = some (some (.ref f8)))
    (l8 : K.lookup f8 = some ⟨oc8, od8, .func (PySem.W.fnOf "parse_request" "parse_request" (defArgs s_parse_request) (defBody s_parse_request) (defScope s_parse_request) (.ref d8) kV8 dc8 pm8 an8 cd8 ct8), sl8⟩)
    (c8 : PySem.W.codeIn K cd8 "parse_request" = true)
    (k8 : PySem.W.keepIn K (.ref f8) = true)
    (e8 : K.lookup d8 = some ⟨oe8, pe8, .seq #[Value.none] ne8, se8⟩)
    (a9 : PySem.W.nsIn K mainGlobals "parse_talk" = some (some (.ref f9)))
    (l9 : K.lookup f9 = some ⟨oc9, od9, .func (PySem.W.fnOf "parse_talk" "parse_talk" (defArgs s_parse_talk) (defBody s_parse_talk) (defScope s_parse_talk) .none kV9 dc9 pm9 an9 cd9 ct9), sl9⟩)
    (c9 : PySem.W.codeIn K cd9 "parse_talk" = true)
    (k9 : PySem.W.keepIn K (.ref f9) = true)
    (a10 : PySem.W.nsIn K mainGlobals "_law_mixed" = some (some (.ref f10)))
    (l10 : K.lookup f10 = some ⟨oc10, od10, .func (PySem.W.fnOf "_law_mixed" "_law_mixed" (defArgs s_law_mixed) (defBody s_law_mixed) (defScope s_law_mixed) .none kV10 dc10 pm10 an10 cd10 ct10), sl10⟩)
    (c10 : PySem.W.codeIn K cd10 "_law_mixed" = true)
    (k10 : PySem.W.keepIn K (.ref f10) = true)
    (a11 : PySem.W.nsIn K mainGlobals "_law_stream" = some (some (.ref f11)))
    (l11 : K.lookup f11 = some ⟨oc11, od11, .func (PySem.W.fnOf "_law_stream" "_law_stream" (defArgs s_law_stream) (defBody s_law_stream) (defScope s_law_stream) .none kV11 dc11 pm11 an11 cd11 ct11), sl11⟩)
    (c11 : PySem.W.codeIn K cd11 "_law_stream" = true)
    (k11 : PySem.W.keepIn K (.ref f11) = true)
    (a12 : PySem.W.nsIn K mainGlobals "_law_take" = some (some (.ref f12)))
    (l12 : K.lookup f12 = some ⟨oc12, od12, .func (PySem.W.fnOf "_law_take" "_law_take" (defArgs s_law_take) (defBody s_law_take) (defScope s_law_take) .none kV12 dc12 pm12 an12 cd12 ct12), sl12⟩)
    (c12 : PySem.W.codeIn K cd12 "_law_take" = true)
    (k12 : PySem.W.keepIn K (.ref f12) = true)
    (a13 : PySem.W.nsIn K mainGlobals "_law_letter" = some (some (.ref f13)))
    (l13 : K.lookup f13 = some ⟨oc13, od13, .func (PySem.W.fnOf "_law_letter" "_law_letter" (defArgs s_law_letter) (defBody s_law_letter) (defScope s_law_letter) .none kV13 dc13 pm13 an13 cd13 ct13), sl13⟩)
    (c13 : PySem.W.codeIn K cd13 "_law_letter" = true)
    (k13 : PySem.W.keepIn K (.ref f13) = true)
    (a14 : PySem.W.nsIn K mainGlobals "_law_text" = some (some (.ref f14)))
    (l14 : K.lookup f14 = some ⟨oc14, od14, .func (PySem.W.fnOf "_law_text" "_law_text" (defArgs s_law_text) (defBody s_law_text) (defScope s_law_text) .none kV14 dc14 pm14 an14 cd14 ct14), sl14⟩)
    (c14 : PySem.W.codeIn K cd14 "_law_text" = true)
    (k14 : PySem.W.keepIn K (.ref f14) = true)
    (a15 : PySem.W.nsIn K mainGlobals "_law_id" = some (some (.ref f15)))
    (l15 : K.lookup f15 = some ⟨oc15, od15, .func (PySem.W.fnOf "_law_id" "_law_id" (defArgs s_law_id) (defBody s_law_id) (defScope s_law_id) .none kV15 dc15 pm15 an15 cd15 ct15), sl15⟩)
    (c15 : PySem.W.codeIn K cd15 "_law_id" = true)
    (k15 : PySem.W.keepIn K (.ref f15) = true)
    (a16 : PySem.W.nsIn K mainGlobals "_law_value" = some (some (.ref f16)))
    (l16 : K.lookup f16 = some ⟨oc16, od16, .func (PySem.W.fnOf "_law_value" "_law_value" (defArgs s_law_value) (defBody s_law_value) (defScope s_law_value) .none kV16 dc16 pm16 an16 cd16 ct16), sl16⟩)
    (c16 : PySem.W.codeIn K cd16 "_law_value" = true)
    (k16 : PySem.W.keepIn K (.ref f16) = true)
    (a17 : PySem.W.nsIn K mainGlobals "_law_names" = some (some (.ref f17)))
    (l17 : K.lookup f17 = some ⟨oc17, od17, .func (PySem.W.fnOf "_law_names" "_law_names" (defArgs s_law_names) (defBody s_law_names) (defScope s_law_names) .none kV17 dc17 pm17 an17 cd17 ct17), sl17⟩)
    (c17 : PySem.W.codeIn K cd17 "_law_names" = true)
    (k17 : PySem.W.keepIn K (.ref f17) = true)
    (a18 : PySem.W.nsIn K mainGlobals "_law_kinds" = some (some (.ref f18)))
    (l18 : K.lookup f18 = some ⟨oc18, od18, .func (PySem.W.fnOf "_law_kinds" "_law_kinds" (defArgs s_law_kinds) (defBody s_law_kinds) (defScope s_law_kinds) .none kV18 dc18 pm18 an18 cd18 ct18), sl18⟩)
    (c18 : PySem.W.codeIn K cd18 "_law_kinds" = true)
    (k18 : PySem.W.keepIn K (.ref f18) = true)
    (a19 : PySem.W.nsIn K mainGlobals "_law_request" = some (some (.ref f19)))
    (l19 : K.lookup f19 = some ⟨oc19, od19, .func (PySem.W.fnOf "_law_request" "_law_request" (defArgs s_law_request) (defBody s_law_request) (defScope s_law_request) .none kV19 dc19 pm19 an19 cd19 ct19), sl19⟩)
    (c19 : PySem.W.codeIn K cd19 "_law_request" = true)
    (k19 : PySem.W.keepIn K (.ref f19) = true)
    (a20 : PySem.W.nsIn K mainGlobals "_law_word" = some (some (.ref f20)))
    (l20 : K.lookup f20 = some ⟨oc20, od20, .func (PySem.W.fnOf "_law_word" "_law_word" (defArgs s_law_word) (defBody s_law_word) (defScope s_law_word) .none kV20 dc20 pm20 an20 cd20 ct20), sl20⟩)
    (c20 : PySem.W.codeIn K cd20 "_law_word" = true)
    (k20 : PySem.W.keepIn K (.ref f20) = true)
    (a21 : PySem.W.nsIn K mainGlobals "_law_line" = some (some (.ref f21)))
    (l21 : K.lookup f21 = some ⟨oc21, od21, .func (PySem.W.fnOf "_law_line" "_law_line" (defArgs s_law_line) (defBody s_law_line) (defScope s_law_line) .none kV21 dc21 pm21 an21 cd21 ct21), sl21⟩)
    (c21 : PySem.W.codeIn K cd21 "_law_line" = true)
    (k21 : PySem.W.keepIn K (.ref f21) = true)
    (a22 : PySem.W.nsIn K mainGlobals "_law_only" = some (some (.ref f22)))
    (l22 : K.lookup f22 = some ⟨oc22, od22, .func (PySem.W.fnOf "_law_only" "_law_only" (defArgs s_law_only) (defBody s_law_only) (defScope s_law_only) .none kV22 dc22 pm22 an22 cd22 ct22), sl22⟩)
    (c22 : PySem.W.codeIn K cd22 "_law_only" = true)
    (k22 : PySem.W.keepIn K (.ref f22) = true)
    (a23 : PySem.W.nsIn K mainGlobals "_law_good_id" = some (some (.ref f23)))
    (l23 : K.lookup f23 = some ⟨oc23, od23, .func (PySem.W.fnOf "_law_good_id" "_law_good_id" (defArgs s_law_good_id) (defBody s_law_good_id) (defScope s_law_good_id) .none kV23 dc23 pm23 an23 cd23 ct23), sl23⟩)
    (c23 : PySem.W.codeIn K cd23 "_law_good_id" = true)
    (k23 : PySem.W.keepIn K (.ref f23) = true)
    (a24 : PySem.W.nsIn K mainGlobals "_law_good_value" = some (some (.ref f24)))
    (l24 : K.lookup f24 = some ⟨oc24, od24, .func (PySem.W.fnOf "_law_good_value" "_law_good_value" (defArgs s_law_good_value) (defBody s_law_good_value) (defScope s_law_good_value) .none kV24 dc24 pm24 an24 cd24 ct24), sl24⟩)
    (c24 : PySem.W.codeIn K cd24 "_law_good_value" = true)
    (k24 : PySem.W.keepIn K (.ref f24) = true)
    (a25 : PySem.W.nsIn K mainGlobals "_law_good_line" = some (some (.ref f25)))
    (l25 : K.lookup f25 = some ⟨oc25, od25, .func (PySem.W.fnOf "_law_good_line" "_law_good_line" (defArgs s_law_good_line) (defBody s_law_good_line) (defScope s_law_good_line) .none kV25 dc25 pm25 an25 cd25 ct25), sl25⟩)
    (c25 : PySem.W.codeIn K cd25 "_law_good_line" = true)
    (k25 : PySem.W.keepIn K (.ref f25) = true)
    (a26 : PySem.W.nsIn K mainGlobals "_law_sign" = some (some (.ref f26)))
    (l26 : K.lookup f26 = some ⟨oc26, od26, .func (PySem.W.fnOf "_law_sign" "_law_sign" (defArgs s_law_sign) (defBody s_law_sign) (defScope s_law_sign) .none kV26 dc26 pm26 an26 cd26 ct26), sl26⟩)
    (c26 : PySem.W.codeIn K cd26 "_law_sign" = true)
    (k26 : PySem.W.keepIn K (.ref f26) = true)
    (a27 : PySem.W.nsIn K mainGlobals "_law_changed" = some (some (.ref f27)))
    (l27 : K.lookup f27 = some ⟨oc27, od27, .func (PySem.W.fnOf "_law_changed" "_law_changed" (defArgs s_law_changed) (defBody s_law_changed) (defScope s_law_changed) .none kV27 dc27 pm27 an27 cd27 ct27), sl27⟩)
    (c27 : PySem.W.codeIn K cd27 "_law_changed" = true)
    (k27 : PySem.W.keepIn K (.ref f27) = true)
    (a28 : PySem.W.nsIn K mainGlobals "_law_word_read" = some (some (.ref f28)))
    (l28 : K.lookup f28 = some ⟨oc28, od28, .func (PySem.W.fnOf "_law_word_read" "_law_word_read" (defArgs s_law_word_read) (defBody s_law_word_read) (defScope s_law_word_read) .none kV28 dc28 pm28 an28 cd28 ct28), sl28⟩)
    (c28 : PySem.W.codeIn K cd28 "_law_word_read" = true)
    (k28 : PySem.W.keepIn K (.ref f28) = true)
    (a29 : PySem.W.nsIn K mainGlobals "law" = some (some (.ref f29)))
    (l29 : K.lookup f29 = some ⟨oc29, od29, .func (PySem.W.fnOf "law" "law" (defArgs s_law) (defBody s_law) (defScope s_law) .none kV29 dc29 pm29 an29 cd29 ct29), sl29⟩)
    (c29 : PySem.W.codeIn K cd29 "law" = true)
    (k29 : PySem.W.keepIn K (.ref f29) = true)
    (a91 : PySem.W.nsIn K mainGlobals "TalkError" = some (some (.ref CT)))
    (fc : PySem.W.findCls K (.ref CT) (.type "type") "__init__" = some (.val (.ref f91)))
    (gt : PySem.W.specialIn K (.ref CT) "__getattribute__" = some (some (.builtin "type.__getattribute__")))
    (rd : PySem.W.readsIn K CT (.type "type") = true)
    (l91 : K.lookup f91 = some ⟨oc91, od91, .func (PySem.W.fnOf "__init__" "TalkError.__init__" (defArgs s_te_init) (defBody s_te_init) (defScope s_te_init) (.ref d91) kV91 dc91 pm91 an91 cd91 ct91), sl91⟩)
    (c91 : PySem.W.codeIn K cd91 "TalkError.__init__" = true)
    (k91 : PySem.W.keepIn K (.ref f91) = true)
    (e91 : K.lookup d91 = some ⟨oe91, pe91, .seq #[Value.none] ne91, se91⟩)
    (a92 : PySem.W.nsIn K mainGlobals "BadLine" = some (some (.ref CB)))
    (ic : PySem.W.findIn K (.ref CB) "__init__" = some (some (.ref f92)))
    (ti : PySem.W.typeIn K (.ref f92) = some (.type "function"))
    (xl : K.lookup CB = some (excClassObj nm q CB N bs bm true sn sub ab col dd m0 m1 m2 m3 m5 "ValueError.__new__"))
    (xb : PySem.HandSPX.refsVE bm = true)
    (sa : PySem.W.findIn K (.ref CB) "__setattr__" = some (some (.builtin "object.__setattr__")))
    (ga : PySem.W.findIn K (.ref CB) "__getattribute__" = some (some (.builtin "BaseException.__getattribute__")))
    (gg : PySem.W.findIn K (.ref CB) "__getattr__" = some none)
    (nw : PySem.W.findIn K (.ref CB) "word" = some none)
    (np : PySem.W.findIn K (.ref CB) "place" = some none)
    (kc : PySem.W.keepIn K (.ref CB) = true)
    (ec : PySem.W.subIn K (.ref CB) (.type "BaseException") = some true)
    (tc : PySem.W.typeIn K (.ref CB) = some (.type "type"))
    (xh : PySem.W.hasDictIn K CB = true)
    (sc : PySem.W.subIn K (.ref CB) (.ref CB) = some true)
    (l92 : K.lookup f92 = some ⟨oc92, od92, .func (PySem.W.fnOf "__init__" "BadLine.__init__" (defArgs s_bl_init) (defBody s_bl_init) (defScope s_bl_init) (.ref d92) kV92 dc92 pm92 an92 cd92 ct92), sl92⟩)
    (c92 : PySem.W.codeIn K cd92 "BadLine.__init__" = true)
    (k92 : PySem.W.keepIn K (.ref f92) = true)
    (e92 : K.lookup d92 = some ⟨oe92, pe92, .seq #[Value.none] ne92, se92⟩)
    (z_len : PySem.W.nsIn K mainGlobals "len" = some none)
    (z_range : PySem.W.nsIn K mainGlobals "range" = some none)
    (z_int : PySem.W.nsIn K mainGlobals "int" = some none)
    (z_str : PySem.W.nsIn K mainGlobals "str" = some none)
    (z_abs : PySem.W.nsIn K mainGlobals "abs" = some none)
    (z_all : PySem.W.nsIn K mainGlobals "all" = some none)
    (z_min : PySem.W.nsIn K mainGlobals "min" = some none)
    (z_list : PySem.W.nsIn K mainGlobals "list" = some none)
    (z_tuple : PySem.W.nsIn K mainGlobals "tuple" = some none)
    (z_bool : PySem.W.nsIn K mainGlobals "bool" = some none)
    (z_isinstance : PySem.W.nsIn K mainGlobals "isinstance" = some none)
    (g1 : PySem.W.nsIn K mainGlobals "LETTERS" = some (some (.str "abcdefghijklmnopqrstuvwxyz" t1)))
    (g2 : PySem.W.nsIn K mainGlobals "DIGITS" = some (some (.str "0123456789" t2)))
    (g3 : PySem.W.nsIn K mainGlobals "DIGITS_MOST" = some (some (.int 30 t3)))
    (g4 : PySem.W.nsIn K mainGlobals "NAME_MOST" = some (some (.int 12 t4)))
    (g5 : PySem.W.nsIn K mainGlobals "VALUES_MOST" = some (some (.int 3 t5)))
    : ∃ fd : FuncData, (∀ (s : Shared) (v : Value), BindsTo s fd ⟨[v], []⟩ [("_law_script", v)]) ∧ ∀ base : Heap, K.In base → base.Ns mainGlobals mg → FnOk P w K mg base CX0 8 fa fd ["_law_script"] (spLaw K) := by
  have e := hfa.symm.trans (PySem.W.mg_of X G a29)
  cases e
  have T : Txt mg t1 t2 t3 t4 t5 := { m_len := PySem.W.mg_none_of X G z_len, m_range := PySem.W.mg_none_of X G z_range, m_int := PySem.W.mg_none_of X G z_int, m_str := PySem.W.mg_none_of X G z_str, m_abs := PySem.W.mg_none_of X G z_abs, m_all := PySem.W.mg_none_of X G z_all, m_min := PySem.W.mg_none_of X G z_min, m_list := PySem.W.mg_none_of X G z_list, m_tuple := PySem.W.mg_none_of X G z_tuple, m_bool := PySem.W.mg_none_of X G z_bool, m_isinstance := PySem.W.mg_none_of X G z_isinstance, g_LETTERS := PySem.W.mg_of X G g1, g_DIGITS := PySem.W.mg_of X G g2, g_DIGITS_MOST := PySem.W.mg_of X G g3, g_NAME_MOST := PySem.W.mg_of X G g4, g_VALUES_MOST := PySem.W.mg_of X G g5 }
  have F1 := fun_mk (st := s_is_text) l1 c1 k1
  have b1 := F1.binds (ps := ["value"]) fun _ _ _ _ _ _ us hl => match us, hl with | [_], _ => rfl
  have F2 := fun_mk (st := s_is_name) l2 c2 k2
  have b2 := F2.binds (ps := ["value"]) fun _ _ _ _ _ _ us hl => match us, hl with | [_], _ => rfl
  have F3 := fun_mk (st := s_format_value) l3 c3 k3
  have b3 := F3.binds (ps := ["value"]) fun _ _ _ _ _ _ us hl => match us, hl with | [_], _ => rfl
  have F4 := fun_mk (st := s_format_request) l4 c4 k4
  have b4 := F4.binds (ps := ["request"]) fun _ _ _ _ _ _ us hl => match us, hl with | [_], _ => rfl
  have F5 := fun_mk (st := s_format_talk) l5 c5 k5
  have b5 := F5.binds (ps := ["talk"]) fun _ _ _ _ _ _ us hl => match us, hl with | [_], _ => rfl
  have F6 := fun_mk (st := s_parse_id) l6 c6 k6
  have b6 := F6.binds (ps := ["text", "place"]) fun _ _ _ _ _ _ us hl => match us, hl with | [_, _], _ => rfl
  have F7 : DefD K "parse_value" "parse_value" s_parse_value f7 _ := ⟨⟨_, _, _, _, _, _, _, _, _, _, rfl, l7, c7, .inr ⟨List.cons_ne_nil _ _, d7, _, [Value.none], ne7, rfl, e7, rfl, .cons rfl .nil⟩, .inl rfl⟩, k7⟩
  obtain ⟨ds7, vd7, bd7⟩ := F7.binds1 (ps := ["text", "place"]) 1 0 (List.cons_ne_nil _ _) rfl fun _ _ _ _ _ _ _ us its hu hi => match us, hu, its, hi with | [_], _, [_], _ => ⟨_, rfl, rfl⟩
  have b7 := all_given (F7.binds1 (ps := ["text", "place"]) 2 1 (List.cons_ne_nil _ _) rfl fun _ _ _ _ _ _ _ us its hu hi => match us, hu, its, hi with | [_, _], _, [_], _ => ⟨_, rfl, rfl⟩)
  have F8 : DefD K "parse_request" "parse_request" s_parse_request f8 _ := ⟨⟨_, _, _, _, _, _, _, _, _, _, rfl, l8, c8, .inr ⟨List.cons_ne_nil _ _, d8, _, [Value.none], ne8, rfl, e8, rfl, .cons rfl .nil⟩, .inl rfl⟩, k8⟩
  obtain ⟨ds8, vd8, bd8⟩ := F8.binds1 (ps := ["line", "place"]) 1 0 (List.cons_ne_nil _ _) rfl fun _ _ _ _ _ _ _ us its hu hi => match us, hu, its, hi with | [_], _, [_], _ => ⟨_, rfl, rfl⟩
  have b8 := all_given (F8.binds1 (ps := ["line", "place"]) 2 1 (List.cons_ne_nil _ _) rfl fun _ _ _ _ _ _ _ us its hu hi => match us, hu, its, hi with | [_, _], _, [_], _ => ⟨_, rfl, rfl⟩)
  have F9 := fun_mk (st := s_parse_talk) l9 c9 k9
  have b9 := F9.binds (ps := ["text"]) fun _ _ _ _ _ _ us hl => match us, hl with | [_], _ => rfl
  have F10 := fun_mk (st := s_law_mixed) l10 c10 k10
  have b10 := F10.binds (ps := ["_law_cell", "_law_k"]) fun _ _ _ _ _ _ us hl => match us, hl with | [_, _], _ => rfl
  have F11 := fun_mk (st := s_law_stream) l11 c11 k11
  have b11 := F11.binds (ps := ["_law_script", "_law_count"]) fun _ _ _ _ _ _ us hl => match us, hl with | [_, _], _ => rfl
  have F12 := fun_mk (st := s_law_take) l12 c12 k12
  have b12 := F12.binds (ps := ["_law_stream_here", "_law_bound"]) fun _ _ _ _ _ _ us hl => match us, hl with | [_, _], _ => rfl
  have F13 := fun_mk (st := s_law_letter) l13 c13 k13
  have b13 := F13.binds (ps := ["_law_stream_here"]) fun _ _ _ _ _ _ us hl => match us, hl with | [_], _ => rfl
  have F14 := fun_mk (st := s_law_text) l14 c14 k14
  have b14 := F14.binds (ps := ["_law_stream_here"]) fun _ _ _ _ _ _ us hl => match us, hl with | [_], _ => rfl
  have F15 := fun_mk (st := s_law_id) l15 c15 k15
  have b15 := F15.binds (ps := ["_law_stream_here"]) fun _ _ _ _ _ _ us hl => match us, hl with | [_], _ => rfl
  have F16 := fun_mk (st := s_law_value) l16 c16 k16
  have b16 := F16.binds (ps := ["_law_stream_here"]) fun _ _ _ _ _ _ us hl => match us, hl with | [_], _ => rfl
  have F17 := fun_mk (st := s_law_names) l17 c17 k17
  have b17 := F17.binds (ps := ["_law_stream_here", "_law_count"]) fun _ _ _ _ _ _ us hl => match us, hl with | [_, _], _ => rfl
  have F18 := fun_mk (st := s_law_kinds) l18 c18 k18
  have b18 := F18.binds (ps := ["_law_stream_here"]) fun _ _ _ _ _ _ us hl => match us, hl with | [_], _ => rfl
  have F19 := fun_mk (st := s_law_request) l19 c19 k19
  have b19 := F19.binds (ps := ["_law_kinds_here", "_law_stream_here"]) fun _ _ _ _ _ _ us hl => match us, hl with | [_, _], _ => rfl
  have F20 := fun_mk (st := s_law_word) l20 c20 k20
  have b20 := F20.binds (ps := ["_law_value_here"]) fun _ _ _ _ _ _ us hl => match us, hl with | [_], _ => rfl
  have F21 := fun_mk (st := s_law_line) l21 c21 k21
  have b21 := F21.binds (ps := ["_law_request_here"]) fun _ _ _ _ _ _ us hl => match us, hl with | [_], _ => rfl
  have F22 := fun_mk (st := s_law_only) l22 c22 k22
  have b22 := F22.binds (ps := ["_law_text_here", "_law_signs"]) fun _ _ _ _ _ _ us hl => match us, hl with | [_, _], _ => rfl
  have F23 := fun_mk (st := s_law_good_id) l23 c23 k23
  have b23 := F23.binds (ps := ["_law_word_here"]) fun _ _ _ _ _ _ us hl => match us, hl with | [_], _ => rfl
  have F24 := fun_mk (st := s_law_good_value) l24 c24 k24
  have b24 := F24.binds (ps := ["_law_word_here"]) fun _ _ _ _ _ _ us hl => match us, hl with | [_], _ => rfl
  have F25 := fun_mk (st := s_law_good_line) l25 c25 k25
  have b25 := F25.binds (ps := ["_law_line_here"]) fun _ _ _ _ _ _ us hl => match us, hl with | [_], _ => rfl
  have F26 := fun_mk (st := s_law_sign) l26 c26 k26
  have b26 := F26.binds (ps := ["_law_stream_here"]) fun _ _ _ _ _ _ us hl => match us, hl with | [_], _ => rfl
  have F27 := fun_mk (st := s_law_changed) l27 c27 k27
  have b27 := F27.binds (ps := ["_law_text_here", "_law_stream_here"]) fun _ _ _ _ _ _ us hl => match us, hl with | [_, _], _ => rfl
  have F28 := fun_mk (st := s_law_word_read) l28 c28 k28
  have b28 := F28.binds (ps := ["_law_word_here"]) fun _ _ _ _ _ _ us hl => match us, hl with | [_], _ => rfl
  have F29 := fun_mk (st := s_law) l29 c29 k29
  have F91 : DefD K "__init__" "TalkError.__init__" s_te_init f91 _ := ⟨⟨_, _, _, _, _, _, _, _, _, _, rfl, l91, c91, .inr ⟨List.cons_ne_nil _ _, d91, _, [Value.none], ne91, rfl, e91, rfl, .cons rfl .nil⟩, .inl rfl⟩, k91⟩
  have b91 := all_given (F91.binds1 (ps := ["self", "word", "place"]) 3 1 (List.cons_ne_nil _ _) rfl fun _ _ _ _ _ _ _ us its hu hi => match us, hu, its, hi with | [_, _, _], _, [_], _ => ⟨_, rfl, rfl⟩)
  have F92 : DefD K "__init__" "BadLine.__init__" s_bl_init f92 _ := ⟨⟨_, _, _, _, _, _, _, _, _, _, rfl, l92, c92, .inr ⟨List.cons_ne_nil _ _, d92, _, [Value.none], ne92, rfl, e92, rfl, .cons rfl .nil⟩, .inl rfl⟩, k92⟩
  have b92 := all_given (F92.binds1 (ps := ["self", "place"]) 2 1 (List.cons_ne_nil _ _) rfl fun _ _ _ _ _ _ _ us its hu hi => match us, hu, its, hi with | [_, _], _, [_], _ => ⟨_, rfl, rfl⟩)
  have oc : OkC K CB := ⟨⟨⟨nm, q, N, bs, bm, sn, sub, ab, col, dd, m0, m1, m2, m3, m5, xl, xb⟩, sa, ec, tc, kc⟩, nw, np⟩
  have Ex : Exs K CB := ⟨⟨ga, gg, ec, xh⟩, PySem.W.exm_ref ec xh tc sc⟩
  refine ⟨PySem.W.fnOf "law" "law" (defArgs s_law) (defBody s_law) (defScope s_law) .none kV29 dc29 pm29 an29 cd29 ct29, fun s v => .of_eq rfl, fun base _ _ => ?_⟩
  have OT : FnOk P w K mg base CX0 1 f91 _ ["self", "word", "place"] (spTE K) := ok_te F91
  have OB : FnOk P w K mg base CX0 2 f92 _ ["self", "place"] (spBL K) := ok_bl F92 OT b91 (PySem.W.mg_of X G a91) gt rd fc k91
  have B : Bad P w K mg base CB := ⟨oc, PySem.W.mg_of X G a92, f92, _, ic, ti, OB, b92⟩
  have C_law_take : Cal P w K mg base CX0 1 "_law_take" ["_law_stream_here", "_law_bound"] spTake := ⟨f12, _, ok_take (k := 0) T F12, PySem.W.mg_of X G a12, k12, b12⟩
  have C_law_mixed : Cal P w K mg base CX0 1 "_law_mixed" ["_law_cell", "_law_k"] spMixed := ⟨f10, _, ok_mixed (k := 0) T F10, PySem.W.mg_of X G a10, k10, b10⟩
  have C_law_letter : Cal P w K mg base CX0 2 "_law_letter" ["_law_stream_here"] spLetter := ⟨f13, _, ok_letter (k := 0) T F13 C_law_take, PySem.W.mg_of X G a13, k13, b13⟩
  have C_law_id : Cal P w K mg base CX0 2 "_law_id" ["_law_stream_here"] spId := ⟨f15, _, ok_id (k := 0) T F15 C_law_take, PySem.W.mg_of X G a15, k15, b15⟩
  have C_law_text : Cal P w K mg base CX0 3 "_law_text" ["_law_stream_here"] spText := ⟨f14, _, ok_text T F14 C_law_take C_law_letter, PySem.W.mg_of X G a14, k14, b14⟩
  have C_law_value : Cal P w K mg base CX0 4 "_law_value" ["_law_stream_here"] spValue := ⟨f16, _, ok_value T F16 C_law_take C_law_text C_law_id, PySem.W.mg_of X G a16, k16, b16⟩
  have C_law_names : Cal P w K mg base CX0 2 "_law_names" ["_law_stream_here", "_law_count"] spNames := ⟨f17, _, ok_names T F17 C_law_take, PySem.W.mg_of X G a17, k17, b17⟩
  have C_law_kinds : Cal P w K mg base CX0 3 "_law_kinds" ["_law_stream_here"] spKinds := ⟨f18, _, ok_kinds T F18 C_law_take C_law_names, PySem.W.mg_of X G a18, k18, b18⟩
  have C_law_request : Cal P w K mg base CX0 5 "_law_request" ["_law_kinds_here", "_law_stream_here"] spRequest := ⟨f19, _, ok_request T F19 C_law_take C_law_value C_law_id, PySem.W.mg_of X G a19, k19, b19⟩
  have C_law_word : Cal P w K mg base CX0 1 "_law_word" ["_law_value_here"] spWord := ⟨f20, _, ok_word (k := 0) T F20, PySem.W.mg_of X G a20, k20, b20⟩
  have C_law_line : Cal P w K mg base CX0 2 "_law_line" ["_law_request_here"] spLine := ⟨f21, _, ok_line T F21 C_law_word, PySem.W.mg_of X G a21, k21, b21⟩
  have C_law_stream : Cal P w K mg base CX0 2 "_law_stream" ["_law_script", "_law_count"] (spStream K) := ⟨f11, _, ok_stream T F11 C_law_mixed, PySem.W.mg_of X G a11, k11, b11⟩
  have C_law_sign : Cal P w K mg base CX0 2 "_law_sign" ["_law_stream_here"] spLetter := ⟨f26, _, ok_sign T F26 C_law_take, PySem.W.mg_of X G a26, k26, b26⟩
  have C_law_changed : Cal P w K mg base CX0 3 "_law_changed" ["_law_text_here", "_law_stream_here"] spChanged := ⟨f27, _, ok_changed T F27 C_law_take C_law_sign, PySem.W.mg_of X G a27, k27, b27⟩
  have C_is_text : Cal P w K mg base CX0 1 "is_text" ["value"] (spOnly lets) := ⟨f1, _, ok_is_text (k := 0) T F1, PySem.W.mg_of X G a1, k1, b1⟩
  have C_is_name : Cal P w K mg base CX0 1 "is_name" ["value"] spName := ⟨f2, _, ok_is_name (k := 0) T F2, PySem.W.mg_of X G a2, k2, b2⟩
  have C_format_value : Cal P w K mg base CX0 1 "format_value" ["value"] spFV := ⟨f3, _, ok_format_value (k := 0) T F3, PySem.W.mg_of X G a3, k3, b3⟩
  have C_format_request : Cal P w K mg base CX0 2 "format_request" ["request"] spFR := ⟨f4, _, ok_format_request T F4 C_format_value, PySem.W.mg_of X G a4, k4, b4⟩
  have C_format_talk : Cal P w K mg base CX0 3 "format_talk" ["talk"] spFT := ⟨f5, _, ok_format_talk T F5 C_format_request, PySem.W.mg_of X G a5, k5, b5⟩
  have C_parse_id : Cal P w K mg base (L2N.CX P w) 4 "parse_id" ["text", "place"] (spPID CB) := ⟨f6, _, ok_parse_id T B F6, PySem.W.mg_of X G a6, k6, b6⟩
  have C_parse_value : CalD P w K mg base (L2N.CX P w) 5 "parse_value" ["text", "place"] (spPV CB) := ⟨f7, _, ok_parse_value T B F7 C_parse_id C_is_text, PySem.W.mg_of X G a7, k7, b7, ds7, vd7, bd7⟩
  have C_parse_request : CalD P w K mg base (L2N.CX P w) 6 "parse_request" ["line", "place"] (spPR CB) := ⟨f8, _, ok_parse_request T B F8 C_parse_value.cal C_is_name, PySem.W.mg_of X G a8, k8, b8, ds8, vd8, bd8⟩
  have C_parse_talk : Cal P w K mg base (L2N.CX P w) 7 "parse_talk" ["text"] (spPT CB) := ⟨f9, _, ok_parse_talk T F9 C_parse_request.cal, PySem.W.mg_of X G a9, k9, b9⟩
  have C_law_only : CalW P w K mg base 1 "_law_only" ["_law_text_here", "_law_signs"] spOnlyL := ⟨f22, _, ok_only T F22, PySem.W.mg_of X G a22, k22, b22⟩
  have C_law_good_id : CalW P w K mg base 2 "_law_good_id" ["_law_word_here"] spGI := ⟨f23, _, ok_good_id T F23 C_law_only, PySem.W.mg_of X G a23, k23, b23⟩
  have C_law_good_value : CalW P w K mg base 3 "_law_good_value" ["_law_word_here"] spGV := ⟨f24, _, ok_good_value T F24 C_law_only C_law_good_id, PySem.W.mg_of X G a24, k24, b24⟩
  have C_law_good_line : Cal P w K mg base CX0 4 "_law_good_line" ["_law_line_here"] spGL := ⟨f25, _, ok_good_line T F25 C_law_only C_law_good_id C_law_good_value, PySem.W.mg_of X G a25, k25, b25⟩
  have C_law_word_read : Cal P w K mg base CX0 6 "_law_word_read" ["_law_word_here"] spWR := ⟨f28, _, ok_word_read T B Ex F28 C_parse_value C_law_good_value C_format_value, PySem.W.mg_of X G a28, k28, b28⟩
  exact ok_law T B Ex F29 C_law_stream C_law_kinds C_law_take C_law_request C_law_line C_law_changed C_law_word_read C_law_good_line C_parse_talk C_format_talk C_parse_request
end TK

/-! TE2: the head. -/
open PySem PySem.W PyProof.Rows
set_option maxHeartbeats 0 in
theorem PySem.Challenge.cw_talkalike_k22_whole_text_or_first_bad_li_holds : PySem.Challenge.rw_talkalike_k22_whole_text_or_first_bad_li.Holds := by
  w_on; o_law; k_head; (case hw => w_witness2)
  k_fill
  refine L2.walk_of (l := PySem.Challenge.rw_talkalike_k22_whole_text_or_first_bad_li) (n := 63) (k := 8) (x := "_law_script") (CX := fun _ => L2.CX0) (sp := fun w => TK.spLaw _) rfl (by decide) rfl ⟨rfl, by decide, by decide⟩ (fun w h Y => PySem.W.kIn_of Y) ?F (fun _ _ a ns hl _ hS => ⟨a, ns, rfl, hS, hl, fun _ => rfl⟩) (fun _ _ _ _ _ h => h)
  case F =>
    intro w mg fa h KX G hmg
    refine' TK.all_mk KX G hmg ?a1 ?l1 ?c1 ?k1 ?a2 ?l2 ?c2 ?k2 ?a3 ?l3 ?c3 ?k3 ?a4 ?l4 ?c4 ?k4 ?a5 ?l5 ?c5 ?k5 ?a6 ?l6 ?c6 ?k6 ?a7 ?l7 ?c7 ?k7 ?e7 ?a8 ?l8 ?c8 ?k8 ?e8 ?a9 ?l9 ?c9 ?k9 ?a10 ?l10 ?c10 ?k10 ?a11 ?l11 ?c11 ?k11 ?a12 ?l12 ?c12 ?k12 ?a13 ?l13 ?c13 ?k13 ?a14 ?l14 ?c14 ?k14 ?a15 ?l15 ?c15 ?k15 ?a16 ?l16 ?c16 ?k16 ?a17 ?l17 ?c17 ?k17 ?a18 ?l18 ?c18 ?k18 ?a19 ?l19 ?c19 ?k19 ?a20 ?l20 ?c20 ?k20 ?a21 ?l21 ?c21 ?k21 ?a22 ?l22 ?c22 ?k22 ?a23 ?l23 ?c23 ?k23 ?a24 ?l24 ?c24 ?k24 ?a25 ?l25 ?c25 ?k25 ?a26 ?l26 ?c26 ?k26 ?a27 ?l27 ?c27 ?k27 ?a28 ?l28 ?c28 ?k28 ?a29 ?l29 ?c29 ?k29 ?a91 ?fc ?gt ?rd ?l91 ?c91 ?k91 ?e91 ?a92 ?ic ?ti ?xl ?xb ?sa ?ga ?gg ?nw ?np ?kc ?ec ?tc ?xh ?sc ?l92 ?c92 ?k92 ?e92 ?z_len ?z_range ?z_int ?z_str ?z_abs ?z_all ?z_min ?z_list ?z_tuple ?z_bool ?z_isinstance ?g1 ?g2 ?g3 ?g4 ?g5
    (case a1 => k_is)
    (case l1 => k_is)
    (case c1 => k_is)
    (case k1 => k_is)
    (case a2 => k_is)
    (case l2 => k_is)
    (case c2 => k_is)
    (case k2 => k_is)
    (case a3 => k_is)
    (case l3 => k_is)
    (case c3 => k_is)
    (case k3 => k_is)
    (case a4 => k_is)
    (case l4 => k_is)
    (case c4 => k_is)
    (case k4 => k_is)
    (case a5 => k_is)
    (case l5 => k_is)
    (case c5 => k_is)
    (case k5 => k_is)
    (case a6 => k_is)
    (case l6 => k_is)
    (case c6 => k_is)
    (case k6 => k_is)
    (case a7 => k_is)
    (case l7 => k_is)
    (case c7 => k_is)
    (case k7 => k_is)
    (case e7 => k_is)
    (case a8 => k_is)
    (case l8 => k_is)
    (case c8 => k_is)
    (case k8 => k_is)
    (case e8 => k_is)
    (case a9 => k_is)
    (case l9 => k_is)
    (case c9 => k_is)
    (case k9 => k_is)
    (case a10 => k_is)
    (case l10 => k_is)
    (case c10 => k_is)
    (case k10 => k_is)
    (case a11 => k_is)
    (case l11 => k_is)
    (case c11 => k_is)
    (case k11 => k_is)
    (case a12 => k_is)
    (case l12 => k_is)
    (case c12 => k_is)
    (case k12 => k_is)
    (case a13 => k_is)
    (case l13 => k_is)
    (case c13 => k_is)
    (case k13 => k_is)
    (case a14 => k_is)
    (case l14 => k_is)
    (case c14 => k_is)
    (case k14 => k_is)
    (case a15 => k_is)
    (case l15 => k_is)
    (case c15 => k_is)
    (case k15 => k_is)
    (case a16 => k_is)
    (case l16 => k_is)
    (case c16 => k_is)
    (case k16 => k_is)
    (case a17 => k_is)
    (case l17 => k_is)
    (case c17 => k_is)
    (case k17 => k_is)
    (case a18 => k_is)
    (case l18 => k_is)
    (case c18 => k_is)
    (case k18 => k_is)
    (case a19 => k_is)
    (case l19 => k_is)
    (case c19 => k_is)
    (case k19 => k_is)
    (case a20 => k_is)
    (case l20 => k_is)
    (case c20 => k_is)
    (case k20 => k_is)
    (case a21 => k_is)
    (case l21 => k_is)
    (case c21 => k_is)
    (case k21 => k_is)
    (case a22 => k_is)
    (case l22 => k_is)
    (case c22 => k_is)
    (case k22 => k_is)
    (case a23 => k_is)
    (case l23 => k_is)
    (case c23 => k_is)
    (case k23 => k_is)
    (case a24 => k_is)
    (case l24 => k_is)
    (case c24 => k_is)
    (case k24 => k_is)
    (case a25 => k_is)
    (case l25 => k_is)
    (case c25 => k_is)
    (case k25 => k_is)
    (case a26 => k_is)
    (case l26 => k_is)
    (case c26 => k_is)
    (case k26 => k_is)
    (case a27 => k_is)
    (case l27 => k_is)
    (case c27 => k_is)
    (case k27 => k_is)
    (case a28 => k_is)
    (case l28 => k_is)
    (case c28 => k_is)
    (case k28 => k_is)
    (case a29 => k_is)
    (case l29 => k_is)
    (case c29 => k_is)
    (case k29 => k_is)
    (case a91 => k_is)
    (case fc => k_is)
    (case gt => k_is)
    (case rd => k_is)
    (case l91 => k_is)
    (case c91 => k_is)
    (case k91 => k_is)
    (case e91 => k_is)
    (case a92 => k_is)
    (case ic => k_is)
    (case ti => k_is)
    (case xl => k_is)
    (case xb => first | rfl | k_is | decide +kernel)
    (case sa => k_is)
    (case ga => k_is)
    (case gg => k_is)
    (case nw => k_is)
    (case np => k_is)
    (case kc => k_is)
    (case ec => k_is)
    (case tc => k_is)
    (case xh => k_is)
    (case sc => first | rfl | k_is | decide +kernel)
    (case l92 => k_is)
    (case c92 => k_is)
    (case k92 => k_is)
    (case e92 => k_is)
    (case z_len => k_is)
    (case z_range => k_is)
    (case z_int => k_is)
    (case z_str => k_is)
    (case z_abs => k_is)
    (case z_all => k_is)
    (case z_min => k_is)
    (case z_list => k_is)
    (case z_tuple => k_is)
    (case z_bool => k_is)
    (case z_isinstance => k_is)
    (case g1 => k_is)
    (case g2 => k_is)
    (case g3 => k_is)
    (case g4 => k_is)
    (case g5 => k_is)
