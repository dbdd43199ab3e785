import PyProof.Rows.All
import HandS.ForMost
import HandS.ForExc
import HandS.Flow
import HandS.Wide
import HandS.SortInts
import HandS.HeadEnd
import HandS.HeadHook2
import HandS.Head2
import HandS.TupAny
import HandS.TupMul
import HandS.ListItems
import KE.KDictPairs
import HandS.CallSlots
import HandS.Lambda
import HandS.Nested
import HandS.EndTab
import HandS.HeadHook4
import HandS.IsInst
import HandS.Text
import HandS.StrMore
import HandS.SetFor
import HandS.Style
import HandS.EndBits
import HandS.Dict
import HandS.Small
import HandS.More
import HandS.Iter
import HandS.Sort
import HandS.Strs
import HandS.ExcOwn
import HandS.ExcIs
import KE.SortData
import HandS.Set
import HandS.TupSets
import KE.KDictSum
import HandS.NestedK
import PySem.Challenge.RW_sumshare_k10_whole_shapes_and_sides
set_option Elab.async false
set_option linter.all false
set_option maxRecDepth 100000
set_option maxHeartbeats 1000000
namespace DL
open PySem PySem.Spec PyProof.Rows L2 HT
/-! ### new tuples, tracked as tuples or to the letter -/
def tobj (its : List Value) : Obj := { cls := .type "tuple", data := .seq its.toArray }
/-- an exact tuple's object bears no dict -/
def TOk (o : Obj) : Prop := o.dict = none
theorem to_tobj {its : List Value} : TOk (tobj its) := rfl
/-- kept as a tuple (true), or to the letter -/
def tupO (b : Bool) (o : Obj) (xs : List V) : HO := match b with
  | true => .tup xs
  | false => .frz o (.tup xs)
section
variable {X : Cx} {pins : List (Addr × Obj)} {σ : L2.St} {H : Hp} {s : Shared}
theorem Inv.laidT (I : Inv X pins σ H s) (b : Bool) {xs : List V} {its : List Value} {t' : Nat} (hz : xs.length ≤ sizeLine) (r : Vals xs its) :
    Inv X pins σ (upd H s.heap.objs.size (tupO b (tobj its) xs)) { s with heap := s.heap.push (tobj its), toks := t' } := by
  have g : (s.heap.push (tobj its)).get? s.heap.objs.size = some (tobj its) := Heap.get?_push_size _ rfl
  have q : ObjOk X.prog X.w (upd H s.heap.objs.size (tupO b (tobj its) xs)) (s.heap.push (tobj its)) s.heap.objs.size (.tup xs) := ⟨hz, its, r, ⟨_, g, rfl, _, rfl⟩⟩
  refine I.laid (t' := t') (fun b u e => Heap.get?_push_of_some _ e) (Nat.le_refl _) ?_
  cases b with
  | true => exact q
  | false => exact ⟨g, q⟩
theorem Inv.newT (I : Inv X pins σ H s) : H s.heap.objs.size = none := I.hok.fresh (Nat.le_refl _)
end
section
variable {X : Cx} {es : List Expr} {t : TA} {pos : Pos}
/-- (a, b, ..) -/
theorem pe_tupX {k : Nat} (h : PA X es t) : PE X (.Tuple es k pos) (fun σ H Q => t σ H fun xs H1 => xs.length ≤ sizeLine ∧ ∃ b, ∀ p o, H1 p = none → TOk o → Q (.ref p) (upd H1 p (tupO b o xs))) := by
  refine ⟨fun pins s σ H Q I hq => wpAny_Tuple_spliced (thn (h.run pos pins s σ H _ I hq) fun us s1 hu => ?_)⟩
  obtain ⟨xs, H1, I1, r, z, b, q⟩ := hu
  exact ⟨by have := r.length; omega, .ref s1.heap.objs.size, _, Inv.laidT (t' := s1.toks) I1 b z r, rfl, q _ _ (Inv.newT I1) to_tobj⟩
/-- t + u, both with items -/
def rCatX (K : PySem.W.Frag) : R2 := fun x y H Q => ∃ a b xs ys, x = .ref a ∧ y = .ref b ∧ SqT K H a xs ∧ SqT K H b ys ∧ xs.length + ys.length ≤ sizeLine ∧ xs ≠ [] ∧ ys ≠ [] ∧
  ∃ c, ∀ p o, H p = none → TOk o → Q (.ref p) (upd H p (tupO c o (xs ++ ys)))
theorem op_catX : OpR X (binaryOp .Add) (rCatX X.K) := by
  intro pins s σ H x y v u Q I rx ry h
  obtain ⟨a, b, xs, ys, rfl, rfl, ha, hb, hz, hx, hy, c, q⟩ := h
  cases rx; cases ry
  obtain ⟨i1, r1, p1, _⟩ := I.tuple ha
  obtain ⟨i2, r2, p2, _⟩ := I.tuple hb
  have l1 := r1.length
  have l2 := r2.length
  refine HT.cat_tup p1 p2 (fun z => hx (r1.nil_iff.mp z)) (fun z => absurd (r2.nil_iff.mp z) hy) (fun _ => ?_) (by omega)
  exact ⟨.ref _, _, Inv.laidT (t' := s.toks) I c (by rw [List.length_append]; exact hz) (r1.append r2), rfl, q _ _ (Inv.newT I) to_tobj⟩
/-- t[lo:hi], not the whole -/
def rSlX (K : PySem.W.Frag) : V → Option Int → Option Int → Hp → VK → Prop := fun x lo hi H Q => ∃ a xs, x = .ref a ∧ SqT K H a xs ∧ ¬ (HT.sIx xs.length 0 lo = 0 ∧ HT.sIx xs.length xs.length hi = xs.length) ∧
  ∃ c, ∀ p o, H p = none → TOk o → Q (.ref p) (upd H p (tupO c o (cutV xs lo hi)))
theorem sl_tupX : SlR X (rSlX X.K) := by
  intro pins s σ H x v vl vu lo hi sl Q I rx hs pl pu h
  obtain ⟨a, xs, rfl, hx, hw, c, q⟩ := h
  cases rx
  obtain ⟨its, r, ht, hz⟩ := I.tuple hx
  have hlen : its.toArray.size = xs.length := by rw [List.size_toArray]; exact r.length.symm
  refine ⟨"tuple", _, PyProof.Rows.slot_tuple_getitem.lookup, ht.typeIs, HT.getItem_tuple_cut ht hs pl pu (by rw [hlen]; exact hw) ?_ (by rw [hlen]; exact hz)⟩
  rw [hlen]
  exact ⟨.ref _, _, Inv.laidT (t' := s.toks) I c (Nat.le_trans (cutV_length xs lo hi) hz) ((r.drop _).take _), rfl, q _ _ (Inv.newT I) to_tobj⟩
/-- tuple(l) of a list -/
theorem call_tupleX : CallR X (.type "tuple") (fun xs H Q => ∃ p ys, xs = [.ref p] ∧ SqL X.K H p ys ∧ ∃ c, ∀ l o, H l = none → TOk o → Q (.ref l) (upd H l (tupO c o ys))) := by
  intro pins s σ H xs us Q I r h
  obtain ⟨p, ys, rfl, hq, c, q⟩ := h
  obtain ⟨u, rfl, rx⟩ := vals1 r
  cases rx
  obtain ⟨its, r', pl, hz⟩ := I.list hq
  have hlen := r'.length
  refine call_tuple_list pl.isList (fun h' kp => ?_) (by rw [List.size_toArray]; omega)
  have I1 : Inv X pins σ H { s with heap := h' } := I.kept (t' := s.toks) kp
  exact ⟨.ref h'.objs.size, _, Inv.laidT (t' := s.toks) I1 c hz r', rfl, q _ _ (Inv.newT I1) to_tobj⟩
end
/-! ### dict(t), t an exact tuple of pairs -/
def rDictTup (K : PySem.W.Frag) : List V → Hp → VK → Prop := fun xs H Q => ∃ (a : Addr) (o : Obj) (ps : List Addr) (kvs : List (Key × V)), xs = [.ref a] ∧ H a = some (.frz o (.tup (ps.map V.ref))) ∧ TOk o ∧ Paired (fun p kv => SqT K H p [kV kv.1, kv.2]) ps kvs ∧
  ∀ p, H p = none → Q (.ref p) (upd H p (.dK (mergeK [] kvs)))
section
variable {X : Cx}
theorem call_dictTup (calm : X.calm = true) : CallR X (.type "dict") (rDictTup X.K) := by
  intro pins s σ H xs us Q I r h
  obtain ⟨a, o, ps, kvs, rfl, ha, ho, hp, q⟩ := h
  obtain ⟨u, rfl, rx⟩ := vals1 r
  cases rx
  obtain ⟨hget, hz, its, rv, o', e', hc, n, hd⟩ := I.hok a _ ha
  rw [hget] at e'
  cases e'
  have ei := refs_at rv
  subst ei
  rw [List.length_map] at hz
  obtain ⟨prs, rel, hl, hpr⟩ := pairs_of I hp
  -- the pairs, as the library names them
  let us : List Value := (List.range ps.length).map fun j => match (prs[j]?, ps[j]?) with
    | (some q, some b) => match s.heap.get? b with
      | some ⟨_, _, .seq xs _, _⟩ => xs.getD 0 .none
      | _ => .none
    | _ => .none
  have ulen : us.length = ps.length := by simp [us]
  have pairs : ∀ j q, prs[j]? = some q → ∃ b, ps[j]? = some b ∧ us[j]? = some (us.getD j .none) ∧ IsTup s.heap b #[us.getD j .none, q.2] ∧ keyIs q.1 (us.getD j .none) = true := by
    intro j q e
    obtain ⟨b, u, e1, e2, e3⟩ := hpr j q e
    have hj : j < ps.length := (List.getElem?_eq_some_iff.mp e1).1
    have eu : us[j]? = some u := by
      obtain ⟨⟨c1, c2, c3, c4⟩, g1, g2, g3, g4⟩ := e2
      simp only at g2 g4
      subst g2 g4
      simp [us, List.getElem?_range hj, e, e1, g1]
    have ed : us.getD j .none = u := by rw [List.getD_eq_getElem?_getD, eu]; rfl
    rw [ed]
    exact ⟨b, e1, eu, e2, e3⟩
  have P := PairArg.tuple (prog := X.prog) (w := X.w) a (ps.map Value.ref).toArray (fun j => ps.getD j 0) (us.zip (prs.map (·.2)))
  have zl : (us.zip (prs.map (·.2))).length = ps.length := by simp [ulen, hl]
  have zat : ∀ j k v, (us.zip (prs.map (·.2)))[j]? = some (k, v) → ∃ q, prs[j]? = some q ∧ k = us.getD j .none ∧ v = q.2 := by
    intro j k v e
    obtain ⟨e1, e2⟩ := List.getElem?_zip_eq_some.mp e
    rw [List.getElem?_map, Option.map_eq_some_iff] at e2
    obtain ⟨q, e3, rfl⟩ := e2
    exact ⟨q, e3, by rw [List.getD_eq_getElem?_getD, e1]; rfl, rfl⟩
  refine PySem.call_dict_pairs (knd := mixKind X.prog X.w) (kvs := prs) P (I.ok.hd calm) ⟨⟨o, n, hget, hc, ho, hd⟩, by simp [zl], fun j k v e => ?_⟩ ⟨by rw [zl, hl], fun j k v e => ?_⟩ (by rw [zl]; exact hz) fun h' tk hd' kp => ?_
  · obtain ⟨q, e1, rfl, rfl⟩ := zat j k v e
    obtain ⟨b, e2, e3, e4, e5⟩ := pairs j q e1
    have eb : ps.getD j 0 = b := by rw [List.getD_eq_getElem?_getD, e2]; rfl
    refine ⟨by simp [e2, eb], .inl ?_⟩
    dsimp only
    rw [eb]
    exact e4
  · have e' : (us.zip (prs.map (·.2)))[j]? = some (k, v) := e
    obtain ⟨q, e1, rfl, rfl⟩ := zat j k v e'
    obtain ⟨b, e2, e3, e4, e5⟩ := pairs j q e1
    exact ⟨q.1, e1, e5⟩
  · have hm : (s.heap.objs.size == sysModules) = false := beq_eq_false_iff_ne.mpr (Nat.ne_of_gt I.big)
    have hlen : (mergeK [] kvs).length ≤ sizeLine := by
      have z := length_mergeK kvs []
      have l1 := rel.length
      simp only [List.length_nil, Nat.zero_add] at z
      omega
    exact ⟨.ref s.heap.objs.size, _, I.laid (t' := tk) (o := .dK (mergeK [] kvs)) (fun b o e => kp b o (fun z => nomatch z) e) (Nat.le_refl _) ⟨hlen, hm, _, KV.merge rel .nil, hd'⟩, rfl, q _ (Inv.newT I)⟩
end
end DL
namespace DL
open PySem PySem.Spec PyProof.Rows L2
/-! ### exceptions that are caught and kept -/
/-- an exception object of the class cls, caught -/
def ExK (cls : Value) (d : Option Addr) (a : Addr) : HO := .ext fun h => ∃ (oe : Obj) (vs : Array Value), h.get? a = some oe ∧ Zc cls d oe ∧ oe.data = .fields vs
theorem exK_ok {P : Program} {w : World} {H : Hp} {h : Heap} {a : Addr} {cls : Value} {d : Option Addr} {oe : Obj} {vs : Array Value} (e : h.get? a = some oe) (z : Zc cls d oe) (f : oe.data = .fields vs) : ObjOk P w H h a (ExK cls d a) :=
  ⟨⟨oe, vs, e, z, f⟩, ⟨oe, e⟩, fun _ _ ⟨o, v, q, r⟩ k => ⟨o, v, k o q, r⟩⟩
section
variable {X : Cx} {pins : List (Addr × Obj)} {σ : L2.St} {H : Hp} {s : Shared}
/-- an object that stands there is tracked from now on -/
theorem Inv.track {a : Addr} {o : HO} {oe : Obj} (I : Inv X pins σ H s) (ha : H a = none) (h0 : X.s_0.heap.get? a = none) (he : s.heap.get? a = some oe) (hc : ∀ v, oe.data ≠ .cell v) (nL : a ≠ X.env.locals) (np : ∀ p ∈ X.pn ++ pins, p.1 ≠ a)
    (new : ObjOk X.prog X.w (upd H a o) s.heap a o) : Inv X pins σ (upd H a o) s := by
  have off : ∀ b u, H b = some u → upd H a o b = some u := fun b u e => by rw [upd_ne (ne_of_none e ha)]; exact e
  have gone : ∀ b, b ≠ a → H b = none → upd H a o b = none := fun b n e => by rw [upd_ne n]; exact e
  refine ⟨I.ok, I.os, I.bare, ⟨I.base.keep, I.base.slot, fun b ob e n hx => gone b (fun z => by rw [z, h0] at e; cases e) (I.base.free b ob e n hx), I.base.there, fun b ys e => off _ _ (I.base.tups b ys e), fun b ob u e => off _ _ (I.base.frzs b ob u e), fun b ps e => ?_⟩, I.loc, I.cell, gone _ (Ne.symm nL) I.free, fun x c e => gone c (fun z => ?_) (I.freeC x c e), fun q hq => ?_, fun b u e => ?_, I.len⟩
  · obtain ⟨m, z⟩ := I.base.tbls b ps e
    exact ⟨m, off _ _ z⟩
  · obtain ⟨v, oc, h1, h2⟩ := I.cell x c e
    rw [z, he] at h1
    cases h1
    exact hc v h2
  · obtain ⟨a1, a2, a3⟩ := I.pin q hq
    exact ⟨a1, gone _ (np q hq) a2, a3⟩
  · by_cases z : b = a
    · subst z
      rw [upd_same] at e
      cases e
      exact new
    · rw [upd_ne z] at e
      exact (I.hok b u e).stay (fun _ _ _ y => y) (fun c y => off _ _ y) fun c ys y => off _ _ y
end
/-- what the clause 'except x as n' wishes of an exception of the body; the suite holds it as a tracked object -/
def wKeep (K : PySem.W.Frag) (c : Value) (i : Nat) (ts : TS) (Wout : WX) (D : Ends) : WX := fun cls d σ H =>
  ∃ b, PySem.W.exmOne K cls c = some b ∧ (b = true → ∀ a, H a = none → ts { nx := fun σ' H' => D.nx (σ'.set i none) H', rt := D.rt, bk := fun σ' H' => D.bk (σ'.set i none) H', ct := fun σ' H' => D.ct (σ'.set i none) H' } (σ.set i (some (.ref a))) (upd H a (ExK cls d a))) ∧
    (b = false → Wout cls d σ H)
section
variable {X : Cx} {x n : Str} {c : Value} {i : Nat} {body suite : List Stmt} {b0 : Stmt} {np pos pos' : Pos} {tb : WX → TS} {ts : TS} {Wout : WX}
theorem ps_try_keep (hs : X.stack = X.env :: X.outer) (hf : X.env.frame = some X.env.locals) (hex : X.ex = []) (hN : X.N.Nodup) (hi : X.N[i]? = some n) (hln : X.env.kindOf n = some .local) (hc : Names X x c) (tk : Takes X Wout)
    (hb : ∀ (W : WX) (pn : List (Addr × Obj)) (xe : Value → Shared → Prop), Takes (X.tr pn xe) W → PassesOwn (model X.prog X.w) X.A X.env xe → PSs (X.tr pn xe) body (tb W))
    (hsu : ∀ (a : Addr) (pn : List (Addr × Obj)), PSs (X.suite a pn) (b0 :: suite) ts) :
    PS X (.Try body [.ExceptHandler (some (.Name x np)) (some n) (b0 :: suite) pos'] [] [] pos) (fun D σ H => tb (wKeep X.K c i ts Wout D) D σ H) := by
  refine ⟨fun pins s σ H D I h => wpAny_Try_except ?_⟩
  have ok := I.ok
  have hfr : X.A.frames = some (X.env :: X.outer) := by rw [ok.frames, hs]
  have hloc : Loc X.env.scope n := .inl hln
  let lands : Value → Shared → Prop := fun e s1 => wpAny (model X.prog X.w) X.A (noteFrame e X.env) (fun _ s2 => wpAny (model X.prog X.w) X.A (setFlight e none) (fun _ s3 =>
    wpAny (model X.prog X.w) X.A (handleBy e X.env [.ExceptHandler (some (.Name x np)) (some n) (b0 :: suite) pos']) (SP X pins D) X.xe s3) X.xe s2) X.xe s1
  refine wpAny_mono ((hb (wKeep X.K c i ts Wout D) (X.pn ++ pins) lands (fun u s' xx => ?_) PassesOwn.looking).run [] s σ H D (I.toTry _) h) (fun f s1 hsp => ?_) (fun e s1 he => he)
  · obtain ⟨a, B, sI, pins', σ', H', cls, d, rfl, J', nb, up, sky, na, os, ag, b, hb1, hyes, hno⟩ := xx
    have J : Inv X pins σ' H' sI := J'.ofTry ok
    rw [hs] at sky
    show wpAny (model X.prog X.w) X.A (noteFrame (.ref a) X.env) _ _ _
    refine Sky.land Zc.steady hfr hf sky fun h3 fl3 up3 => ?_
    have J3 : Inv X pins σ' H' { s' with heap := h3 } := J.landed nb fl3.1 (up.trans up3) os ag
    obtain ⟨oe3, vs3, he3, hz3, hd3⟩ := fl3.there
    have nfr : a ∉ frs (X.env :: X.outer) := fun hm => by
      obtain ⟨_, o', e', hnf⟩ := fl3.2.2.1.mem hm
      rw [he3] at e'
      cases e'
      exact hnf _ hd3
    have nL : a ≠ X.env.locals := fun z => nfr (List.mem_filterMap.mpr ⟨X.env, List.mem_cons_self, by rw [hf, z]⟩)
    have nF : a ∉ X.fs := fun hm => by
      obtain ⟨e, he, q⟩ := List.mem_filterMap.mp hm
      exact nfr (List.mem_filterMap.mpr ⟨e, List.mem_cons_of_mem _ he, q⟩)
    have nI : ∀ o, sI.heap.get? a ≠ some o := fun o e => by
      have z := nb a o e (by rw [hs]; exact nfr)
      rw [fl3.2.1] at z
      cases z
    have n0 : X.s_0.heap.get? a = none := by
      cases q : X.s_0.heap.get? a with
      | none => rfl
      | some o =>
        obtain ⟨o', e⟩ := J.base.there a o q (by rw [hex]; exact fun z => nomatch z)
        exact absurd e (nI o')
    have npn : ∀ p ∈ X.pn ++ pins, p.1 ≠ a := fun p hp z => nI p.2 (z ▸ (J.pin p hp).1)
    have track : ∀ {h' : Heap} {oe : Obj} {vs : Array Value}, Inv X pins σ' H' { s' with heap := h' } → h'.get? a = some oe → Zc cls d oe → oe.data = .fields vs → Inv X pins σ' (upd H' a (ExK cls d a)) { s' with heap := h' } := fun {h' oe vs} J4 e z f =>
      Inv.track J4 na n0 e (fun v y => by rw [f] at y; cases y) nL npn (exK_ok e z f)
    have S3 := J3.suite he3 hd3 na nL nF
    refine wpAny_handleBy_cons (codeAny_handlers_test ?_) (by intro q; cases q)
    have LT : PySem.W.Looks (model X.prog X.w) h3 (typeOf (.ref a)) cls := fun A Q E s k q => wpAny_typeOf_ref (k _ _ he3) (by rw [hz3.1]; exact q)
    have LM := PySem.W.exm_one (M := model X.prog X.w) J3.kIn LT hb1
    have test : ∀ {Q : Value → Shared → Prop} {E : Value → Shared → Prop}, Q c { s' with heap := h3 } → wpAny (model X.prog X.w) (X.A.mark (some (.ref a))) (eval (.Name x np) X.env) Q E { s' with heap := h3 } := fun {Q E} q => by
      obtain ⟨hg, hdbg, hm | ⟨hm, hv, hnn⟩⟩ := hc
      · exact ld_glob (X := X.suite a ((a, oe3) :: (X.pn ++ pins))) S3 hg hm q hdbg
      · exact ld_blt (X := X.suite a ((a, oe3) :: (X.pn ++ pins))) S3 hg hm hv q hnn hdbg
    refine test (LM.here ?_)
    cases b with
    | true =>
      refine codeAny_handlers_suite_as (HandSPX.lands_againZ fl3 fun h4 fl4 up4 => ?_)
      have J4 : Inv X pins σ' H' { s' with heap := h4 } := J.landed nb fl4.1 ((up.trans up3).trans up4) os ag
      obtain ⟨oe4, vs4, he4, hz4, hd4⟩ := fl4.there
      have T4 := track J4 he4 hz4 hd4
      have S4 : Inv (X.suite a (X.pn ++ pins)) [] σ' (upd H' a (ExK cls d a)) { s' with heap := h4 } :=
        ⟨T4.ok.suite _ _, T4.os, T4.bare, T4.base, T4.loc, T4.cell, T4.free, T4.freeC, fun p hp => T4.pin p (by rw [List.append_nil] at hp; exact hp), T4.hok, T4.len⟩
      refine store_ok (X := X.suite a (X.pn ++ pins)) (v := .ref a) S4 hN hi hloc rfl (fun s5 S5 => ?_) (.inr hln)
      have back : ∀ {σ6 : L2.St} {H6 : Hp} {s6 : Shared} {pn' : List (Addr × Obj)}, Inv (X.suite a (X.pn ++ pins)) pn' σ6 H6 s6 → Inv X pins σ6 H6 s6 := fun S6 =>
        ⟨ok, S6.os, S6.bare, S6.base, S6.loc, S6.cell, S6.free, S6.freeC, fun p hp => S6.pin p (List.mem_append_left _ hp), S6.hok, S6.len⟩
      refine wpAny_mono ((hsu a (X.pn ++ pins)).run [] s5 _ _ _ S5 (hyes rfl a na)) (fun f s6 hsp => ?_) (fun _ _ z => False.elim z)
      have end_ : ∀ {σ6 : L2.St} {H6 : Hp} {Q : Shared → Prop}, Inv (X.suite a (X.pn ++ pins)) [] σ6 H6 s6 → (∀ s7, Inv X pins (σ6.set i none) H6 s7 → Q s7) →
          wpAny (model X.prog X.w) X.A (do bindName X.env n .none; unbindBehindTheSuite X.env n pos') (fun _ s7 => Q s7) X.xe s6 := fun {σ6 H6 Q} S6 hq => gone_ok (back S6) hN hi hln hq
      cases f with
      | ret u =>
        obtain ⟨v6, σ6, H6, S6, r6, q6⟩ := hsp
        exact end_ S6 fun s7 J7 => ⟨_, _, _, J7, r6, q6⟩
      | _ =>
        obtain ⟨σ6, H6, S6, q6⟩ := hsp
        exact end_ S6 fun s7 J7 => ⟨_, _, J7, q6⟩
    | false =>
      show wpAny _ X.A (handleBy (.ref a) X.env []) _ _ _
      refine wpAny_handleBy_nil ?_
      obtain ⟨k1, k2, k3, oe, vs, T, oT, ts', he, hz, hd, h1, hr⟩ := id fl3
      unfold PySem.passOn
      refine wpAny_bind (wpAny_field he hd h1 ?_)
      rw [if_neg (show ¬ ((Value.ref T == Value.none) = true) from by simp)]
      have fin : wpAny (model X.prog X.w) X.A (setFlight (.ref a) X.env.frame) (fun _ s4 => wpAny (model X.prog X.w) X.A (throw (.ref a) : Sem Flow) (SP X pins D) X.xe s4) X.xe { s' with heap := h3 } := by
        rw [hf]
        refine HandSPX.setFlight_upZ fl3 fun h4 hh4 up4 => wpAny_throw (tk _ _ ⟨a, B, sI, pins, σ', H', cls, d, rfl, J, nb, (up.trans up3).trans up4, .inr (.inr (by rw [hs]; exact hh4)), na, os, ag, hno rfl⟩)
      first
        | exact wpAny_bind (wpAny_pure (wpAny_bind fin))
        | exact wpAny_bind fin
  · cases f with
    | next =>
      obtain ⟨σ', H', J', q⟩ := hsp
      exact wpAny_execs_nil ⟨σ', H', J'.ofTry ok, q⟩
    | brk =>
      obtain ⟨σ', H', J', q⟩ := hsp
      exact ⟨σ', H', J'.ofTry ok, q⟩
    | cont =>
      obtain ⟨σ', H', J', q⟩ := hsp
      exact ⟨σ', H', J'.ofTry ok, q⟩
    | ret u =>
      obtain ⟨v, σ', H', J', r, q⟩ := hsp
      exact ⟨v, σ', H', J'.ofTry ok, r, q⟩
end
end DL

set_option Elab.async false
set_option linter.all false
set_option maxRecDepth 100000
set_option maxHeartbeats 1000000
namespace DL
open PySem PySem.Spec PyProof.Rows L2

/-! ### tables of code objects -/
/-- what may change under a def's hands -/
def MutD : Option HO → Prop
  | some (.lst _) => True
  | some (.dK _) => True
  | some (.dT _) => True
  | some (.tbl _) => True
  | _ => False
/-- the defs that make lambdas -/
def lamDefs : List Str := ["grown_tally", "tally_paper", "grown_ladder", "ladder_paper", "law", "grown_calendar", "_law_refused", "times_within", "things_within", "sum_within", "at_most_within", "grown_bundle", "_law_again"]
def lamQ (x : Str) : Str := x ++ ".<locals>." ++ "<lambda>"
/-- where a def's table lies, its code object -/
abbrev tabA (K : PySem.W.Frag) (x : Str) : Addr := (He.cT K (x, none)).2
abbrev codA (K : PySem.W.Frag) (x : Str) : Addr := (He.cT K (x, none)).1
def isTab (K : PySem.W.Frag) (x : Str) : Bool := PySem.W.codeHdIn K (codA K x) (tabA K x)
/-- no table lies there -/
def nt (K : PySem.W.Frag) (a : Addr) : Prop := ∀ x ∈ lamDefs, isTab K x = true → a ≠ tabA K x
/-- the tables are in order -/
def Tb (K : PySem.W.Frag) (H : Hp) : Prop := ∀ x ∈ lamDefs, isTab K x = true → LamX.TabS H (tabA K x) (lamQ x)
theorem Tb.nt {K : PySem.W.Frag} {H : Hp} (t : Tb K H) {a : Addr} (h : ∀ ps, H a ≠ some (.tbl ps)) : nt K a := fun x m z e => by
  obtain ⟨ps, q, _⟩ := t x m z
  exact h ps (by rw [e]; exact q)
theorem Tb.ntD {K : PySem.W.Frag} {H : Hp} (t : Tb K H) {a : Addr} {u : HO} (e : H a = some u) (h : ¬ MutD (some u)) : DL.nt K a := t.nt fun ps z => by
  rw [z] at e
  cases e
  exact h True.intro
theorem Tb.ext {K : PySem.W.Frag} {H H' : Hp} (t : Tb K H) (h : ∀ b o, H b = some o → ((∃ ps, o = .tbl ps) ∨ ¬ MutD (some o)) → H' b = some o) : Tb K H' := fun x m z => by
  obtain ⟨ps, e, o, q⟩ := t x m z
  refine ⟨ps, h _ _ e (.inl ⟨ps, rfl⟩), o, fun pos cv hc => ?_⟩
  obtain ⟨c, e1, e2⟩ := q pos cv hc
  exact ⟨c, e1, h _ _ e2 (.inr fun z => z)⟩
theorem Tb.same {K : PySem.W.Frag} {H H' : Hp} (t : Tb K H) (s : Same H H') : Tb K H' := t.ext fun b o e _ => s b o e
/-- one thing that is no table may change -/
theorem Tb.but {K : PySem.W.Frag} {H H' : Hp} {p : Addr} (t : Tb K H) (hm : Mut (H p)) (hd : MutD (H p)) (k : ∀ a u, a ≠ p → H a = some u → H' a = some u) : Tb K H' := t.ext fun b u e h => k b u (by
  rintro rfl
  rw [e] at hm hd
  rcases h with ⟨ps, rfl⟩ | h
  · exact hm
  · exact h hd) e
/-- one thing that is neither table nor code object may change -/
theorem Tb.off {K : PySem.W.Frag} {H H' : Hp} {p : Addr} (t : Tb K H) (h1 : ∀ ps, H p ≠ some (.tbl ps)) (h2 : ∀ φ, H p ≠ some (.ext φ)) (k : ∀ a u, a ≠ p → H a = some u → H' a = some u) : Tb K H' := fun x m z => by
  obtain ⟨ps, e, o, q⟩ := t x m z
  refine ⟨ps, k _ _ (fun y => h1 ps (by rw [← y]; exact e)) e, o, fun pos cv hc => ?_⟩
  obtain ⟨c, e1, e2⟩ := q pos cv hc
  exact ⟨c, e1, k _ _ (fun y => h2 _ (by rw [← y]; exact e2)) e2⟩
/-- the heap behind a call: all but tables is kept -/
structure SameD (K : PySem.W.Frag) (H H' : Hp) : Prop where
  ext : ∀ b o, nt K b → H b = some o → H' b = some o
  free : ∀ b, H' b = none → H b = none
  tb : Tb K H'
theorem SameD.of {K : PySem.W.Frag} {H H' : Hp} (t : Tb K H) (s : Same H H') : SameD K H H' := ⟨fun b o _ e => s b o e, fun b e => s.free e, t.same s⟩

/-! ### data at values -/
def keyD : Key → PyData
  | .inl i => .int i
  | .inr x => .str x

/-- a list of the written part, to the letter -/
def LK (K : PySem.W.Frag) (a : Addr) (xs : List V) : Prop := ∃ (its : List Value) (n : Nat), K.lookup a = some { cls := .type "list", data := .seq its.toArray n } ∧ its.length ≤ sizeLine ∧ Vals xs its
/-- an item that may stand in a dict's key -/
def keyItem : PyData → Bool
  | .int _ => true
  | .str _ => true
  | _ => false
/-- a tuple that may be a dict's key -/
def keyish (ds : List PyData) : Bool := !ds.isEmpty && ds.all keyItem
mutual
/-- value v stands for data d; its lists and dicts lie in N -/
inductive R (K : PySem.W.Frag) (N : Addr → Prop) (H : Hp) : V → PyData → Prop
  | non : R K N H .non .none
  | bl (b : Bool) : R K N H (.bl b) (.bool b)
  | int (i : Int) : R K N H (.int i) (.int i)
  | str (x : Str) : R K N H (.str x) (.str x)
  | lst {a : Addr} {xs : List V} {ds : List PyData} : N a → Rd H a (.lst xs) → RA K N H xs ds → R K N H (.ref a) (.list ds)
  | lstK {a : Addr} {xs : List V} {ds : List PyData} : LK K a xs → RA K N H xs ds → R K N H (.ref a) (.list ds)
  | tup {a : Addr} {xs : List V} {ds : List PyData} : H a = some (.tup xs) → RA K N H xs ds → keyish ds = true → R K N H (.ref a) (.tuple ds)
  | tupX {a : Addr} {xs : List V} {o : Obj} {ds : List PyData} : H a = some (.frz o (.tup xs)) → TOk o → RA K N H xs ds → keyish ds = false → R K N H (.ref a) (.tuple ds)
  | exc {a : Addr} {x : Str} : N a → H a = some (ExK (.ref (He.ga K x)) none a) → R K N H (.ref a) (.dict [(.none, .str x)])
  | dk {a : Addr} {kvs : List (Key × V)} {ds : List (PyData × PyData)} : N a → Rd H a (.dK kvs) → RK K N H kvs ds → R K N H (.ref a) (.dict ds)
  | dt {a : Addr} {kvs : List (List Key × V)} {ds : List (PyData × PyData)} : N a → H a = some (.dT kvs) → RT K N H kvs ds → R K N H (.ref a) (.dict ((.none, .none) :: ds))
inductive RA (K : PySem.W.Frag) (N : Addr → Prop) (H : Hp) : List V → List PyData → Prop
  | nil : RA K N H [] []
  | cons {v : V} {vs : List V} {d : PyData} {ds : List PyData} : R K N H v d → RA K N H vs ds → RA K N H (v :: vs) (d :: ds)
inductive RK (K : PySem.W.Frag) (N : Addr → Prop) (H : Hp) : List (Key × V) → List (PyData × PyData) → Prop
  | nil : RK K N H [] []
  | cons {k : Key} {v : V} {vs : List (Key × V)} {d : PyData} {ds : List (PyData × PyData)} : R K N H v d → RK K N H vs ds → RK K N H ((k, v) :: vs) ((keyD k, d) :: ds)
inductive RT (K : PySem.W.Frag) (N : Addr → Prop) (H : Hp) : List (List Key × V) → List (PyData × PyData) → Prop
  | nil : RT K N H [] []
  | cons {k : List Key} {v : V} {vs : List (List Key × V)} {d : PyData} {ds : List (PyData × PyData)} : R K N H v d → RT K N H vs ds → RT K N H ((k, v) :: vs) ((.tuple (k.map keyD), d) :: ds)
end

section
variable {K : PySem.W.Frag} {N N' : Addr → Prop} {H H' : Hp}
theorem Rd.there {a : Addr} {u : HO} (h : Rd H a u) : H a ≠ none := by
  rcases h with h | ⟨o, h⟩ <;> rw [h] <;> exact fun z => nomatch z
theorem Rd.same {a : Addr} {u : HO} (h : Rd H a u) (k : ∀ o, H a = some o → H' a = some o) : Rd H' a u := by
  rcases h with h | ⟨o, h⟩
  · exact .inl (k _ h)
  · exact .inr ⟨o, k _ h⟩
theorem SqT.keeps {a : Addr} {xs : List V} (h : SqT K H a xs) (hT : ∀ a u, H a = some u → ¬ MutD (some u) → H' a = some u) : SqT K H' a xs := by
  rcases h with (h | ⟨o, h⟩) | h
  · exact .inl (.inl (hT _ _ h (fun z => z)))
  · exact .inl (.inr ⟨o, hT _ _ h (fun z => z)⟩)
  · exact .inr h
mutual
theorem R.mono (hN : ∀ a, N a → H a ≠ none → N' a) (hT : ∀ a u, H a = some u → ¬ MutD (some u) → H' a = some u) (hM : ∀ a u, N a → H a = some u → H' a = some u) :
    ∀ {v : V} {d : PyData}, R K N H v d → R K N' H' v d
  | _, _, .non => .non
  | _, _, .bl b => .bl b
  | _, _, .int i => .int i
  | _, _, .str x => .str x
  | _, _, .lst n h r => .lst (hN _ n (Rd.there h)) (Rd.same h fun o => hM _ o n) (RA.mono hN hT hM r)

  | _, _, .lstK h r => .lstK h (RA.mono hN hT hM r)
  | _, _, .tup h r k => .tup (hT _ _ h (fun z => z)) (RA.mono hN hT hM r) k
  | _, _, .tupX h ho r k => .tupX (hT _ _ h (fun z => z)) ho (RA.mono hN hT hM r) k
  | _, _, .exc n h => .exc (hN _ n (by rw [h]; exact fun z => nomatch z)) (hM _ _ n h)
  | _, _, .dk n h r => .dk (hN _ n (Rd.there h)) (Rd.same h fun o => hM _ o n) (RK.mono hN hT hM r)
  | _, _, .dt n h r => .dt (hN _ n (by rw [h]; exact fun z => nomatch z)) (hM _ _ n h) (RT.mono hN hT hM r)
theorem RA.mono (hN : ∀ a, N a → H a ≠ none → N' a) (hT : ∀ a u, H a = some u → ¬ MutD (some u) → H' a = some u) (hM : ∀ a u, N a → H a = some u → H' a = some u) :
    ∀ {v : List V} {d : List PyData}, RA K N H v d → RA K N' H' v d
  | _, _, .nil => .nil
  | _, _, .cons h r => .cons (R.mono hN hT hM h) (RA.mono hN hT hM r)
theorem RK.mono (hN : ∀ a, N a → H a ≠ none → N' a) (hT : ∀ a u, H a = some u → ¬ MutD (some u) → H' a = some u) (hM : ∀ a u, N a → H a = some u → H' a = some u) :
    ∀ {v : List (Key × V)} {d : List (PyData × PyData)}, RK K N H v d → RK K N' H' v d
  | _, _, .nil => .nil
  | _, _, .cons h r => .cons (R.mono hN hT hM h) (RK.mono hN hT hM r)
theorem RT.mono (hN : ∀ a, N a → H a ≠ none → N' a) (hT : ∀ a u, H a = some u → ¬ MutD (some u) → H' a = some u) (hM : ∀ a u, N a → H a = some u → H' a = some u) :
    ∀ {v : List (List Key × V)} {d : List (PyData × PyData)}, RT K N H v d → RT K N' H' v d
  | _, _, .nil => .nil
  | _, _, .cons h r => .cons (R.mono hN hT hM h) (RT.mono hN hT hM r)
end
/-- what an owned object holds -/
def Cn (K : PySem.W.Frag) (N : Addr → Prop) (H : Hp) (p : Addr) : PyData → Prop
  | .list ds => ∃ xs, H p = some (.lst xs) ∧ RA K N H xs ds
  | .dict ds => (∃ kvs, H p = some (.dK kvs) ∧ RK K N H kvs ds) ∨ (∃ kvs, H p = some (.dT kvs) ∧ ∃ es, ds = (.none, .none) :: es ∧ RT K N H kvs es)
  | _ => False
theorem Cn.mono {p : Addr} {d : PyData} (hN : ∀ a, N a → H a ≠ none → N' a) (hT : ∀ a u, H a = some u → ¬ MutD (some u) → H' a = some u) (hM : ∀ a u, N a → H a = some u → H' a = some u)
    (hp : ∀ u, H p = some u → H' p = some u) (h : Cn K N H p d) : Cn K N' H' p d := by
  cases d with
  | list ds => obtain ⟨xs, e, r⟩ := h; exact ⟨xs, hp _ e, r.mono hN hT hM⟩
  | dict ds =>
    rcases h with ⟨k, e, r⟩ | ⟨k, e, r⟩
    · exact .inl ⟨k, hp _ e, r.mono hN hT hM⟩
    · obtain ⟨es, h1, r⟩ := r; exact .inr ⟨k, hp _ e, es, h1, r.mono hN hT hM⟩
  | _ => exact h.elim
theorem Cn.mut {p : Addr} {d : PyData} (h : Cn K N H p d) : Mut (H p) := by
  cases d with
  | list ds => obtain ⟨xs, e, r⟩ := h; rw [e]; exact True.intro
  | dict ds =>
    rcases h with ⟨k, e, r⟩ | ⟨k, e, r⟩
    · rw [e]; exact True.intro
    · rw [e]; exact True.intro
  | _ => exact h.elim
mutual
theorem R.ntB (t : Tb K H) : ∀ {v : V} {d : PyData}, R K N H v d → R K (fun a => N a ∧ nt K a) H v d
  | _, _, .non => .non
  | _, _, .bl b => .bl b
  | _, _, .int i => .int i
  | _, _, .str x => .str x
  | _, _, .lst n h r => .lst ⟨n, t.nt fun ps z => by rcases h with h | ⟨o, h⟩ <;> rw [h] at z <;> cases z⟩ h (RA.ntB t r)
  | _, _, .lstK h r => .lstK h (RA.ntB t r)
  | _, _, .tup h r k => .tup h (RA.ntB t r) k
  | _, _, .tupX h ho r k => .tupX h ho (RA.ntB t r) k
  | _, _, .exc n h => .exc ⟨n, t.nt fun ps z => by rw [h] at z; cases z⟩ h
  | _, _, .dk n h r => .dk ⟨n, t.nt fun ps z => by rcases h with h | ⟨o, h⟩ <;> rw [h] at z <;> cases z⟩ h (RK.ntB t r)
  | _, _, .dt n h r => .dt ⟨n, t.nt fun ps z => by rw [h] at z; cases z⟩ h (RT.ntB t r)
theorem RA.ntB (t : Tb K H) : ∀ {v : List V} {d : List PyData}, RA K N H v d → RA K (fun a => N a ∧ nt K a) H v d
  | _, _, .nil => .nil
  | _, _, .cons h r => .cons (R.ntB t h) (RA.ntB t r)
theorem RK.ntB (t : Tb K H) : ∀ {v : List (Key × V)} {d : List (PyData × PyData)}, RK K N H v d → RK K (fun a => N a ∧ nt K a) H v d
  | _, _, .nil => .nil
  | _, _, .cons h r => .cons (R.ntB t h) (RK.ntB t r)
theorem RT.ntB (t : Tb K H) : ∀ {v : List (List Key × V)} {d : List (PyData × PyData)}, RT K N H v d → RT K (fun a => N a ∧ nt K a) H v d
  | _, _, .nil => .nil
  | _, _, .cons h r => .cons (R.ntB t h) (RT.ntB t r)
end
theorem Cn.mutD {p : Addr} {d : PyData} (h : Cn K N H p d) : MutD (H p) := by
  cases d with
  | list ds => obtain ⟨xs, e, r⟩ := h; rw [e]; exact True.intro
  | dict ds =>
    rcases h with ⟨k, e, r⟩ | ⟨k, e, r⟩
    · rw [e]; exact True.intro
    · rw [e]; exact True.intro
  | _ => exact h.elim
theorem Cn.there {p : Addr} {d : PyData} (h : Cn K N H p d) : H p ≠ none := by
  intro z
  have := h.mut
  rw [z] at this
  exact this
theorem Cn.val {p : Addr} {d : PyData} (h : Cn K N H p d) (n : N p) : R K N H (.ref p) d := by
  cases d with
  | list ds => obtain ⟨xs, e, r⟩ := h; exact .lst n (.inl e) r
  | dict ds =>
    rcases h with ⟨k, e, r⟩ | ⟨k, e, r⟩
    · exact .dk n (.inl e) r
    · obtain ⟨es, h1, r⟩ := r; rw [h1]; exact .dt n e r
  | _ => exact h.elim
/-- a list that may be read -/
def LL (K : PySem.W.Frag) (H : Hp) (a : Addr) (xs : List V) : Prop := Rd H a (.lst xs) ∨ LK K a xs
theorem LL.sq {a : Addr} {xs : List V} (h : LL K H a xs) : SqL K H a xs := by
  rcases h with h | ⟨its, n, hk, hz, r⟩
  · exact .inl h
  · exact .inr ⟨_, its.toArray, n, hk, rfl, rfl, rfl, by simpa using hz, by simpa using r⟩
theorem LL.at {X : Cx} {pins : List (Addr × Obj)} {σ : L2.St} {s : Shared} {a : Addr} {xs : List V} (h : LL X.K H a xs) (I : Inv X pins σ H s) : ∃ (its : List Value) (n : Nat), Vals xs its ∧ xs.length ≤ sizeLine ∧ s.heap.get? a = some { cls := .type "list", data := .seq its.toArray n } := by
  rcases h with h | ⟨its, n, hk, hz, r⟩
  · obtain ⟨z, its, n, r, e⟩ := h.ok I.hok
    exact ⟨its, n, r, z, e⟩
  · exact ⟨its, n, r, by rw [r.length]; exact hz, I.kIn a _ hk⟩
theorem R.ll {v : V} {ds : List PyData} (h : R K N H v (.list ds)) : ∃ a xs, v = .ref a ∧ LL K H a xs ∧ RA K N H xs ds := by
  cases h with
  | lst n h r => exact ⟨_, _, rfl, .inl h, r⟩
  | lstK h r => exact ⟨_, _, rfl, .inr h, r⟩
theorem RA.length {v : List V} {d : List PyData} (h : RA K N H v d) : v.length = d.length := by
  induction v generalizing d with
  | nil => cases h; rfl
  | cons x xs ih => cases h with | cons _ r => simp [ih r]
theorem RA.get {v : List V} {d : List PyData} (h : RA K N H v d) : ∀ {i : Nat} {y : PyData}, d[i]? = some y → ∃ x, v[i]? = some x ∧ R K N H x y := by
  induction v generalizing d with
  | nil => cases h; intro i y e; simp at e
  | cons x xs ih =>
    cases h with
    | cons h r =>
      intro i y e
      cases i with
      | zero => simp at e; subst e; exact ⟨x, rfl, h⟩
      | succ i => simp at e; obtain ⟨z, h1, h2⟩ := ih r e; exact ⟨z, by simpa using h1, h2⟩
theorem RA.append {v v' : List V} {d d' : List PyData} (h : RA K N H v d) (h' : RA K N H v' d') : RA K N H (v ++ v') (d ++ d') := by
  induction v generalizing d with
  | nil => cases h; exact h'
  | cons x xs ih => cases h with | cons h r => exact .cons h (ih r)
theorem RA.snoc {v : List V} {d : List PyData} {x : V} {y : PyData} (h : RA K N H v d) (h' : R K N H x y) : RA K N H (v ++ [x]) (d ++ [y]) := h.append (.cons h' .nil)
end

section
variable {K : PySem.W.Frag} {N : Addr → Prop} {H : Hp}
/-- a new tuple, tracked as its data ask -/
theorem R.newT {p : Addr} {o : Obj} {xs : List V} {ds : List PyData} (ho : TOk o) (r : RA K N (upd H p (tupO (keyish ds) o xs)) xs ds) : R K N (upd H p (tupO (keyish ds) o xs)) (.ref p) (.tuple ds) := by
  cases h : keyish ds with
  | true => rw [h] at r; exact .tup upd_same r h
  | false => rw [h] at r; exact .tupX upd_same ho r h
theorem R.sqt {v : V} {ds : List PyData} (h : R K N H v (.tuple ds)) : ∃ a xs, v = .ref a ∧ SqT K H a xs ∧ RA K N H xs ds := by
  cases h with
  | tup h r _ => exact ⟨_, _, rfl, .inl (.inl h), r⟩
  | tupX h _ r _ => exact ⟨_, _, rfl, .inl (.inr ⟨_, h⟩), r⟩
end
/-! ### a slot's standing -/
/-- a function value: where it lies, what it has captured, the code objects it leans on -/
structure Clo where
  f : Addr
  ws : List V
  cs : List (Addr × Str)
inductive Sl where
  | no
  | sh (d : PyData)
  | ow (d : PyData)
  | io (k : Nat) (d : PyData)
  | al (i : Nat)
  | raw (v : V)
  | fz (o : Obj) (kvs : List (Key × V))
  | fr (ds : List (PyData × PyData))
  | clo (c : Clo) (ds : List PyData)
def Sl.own : Sl → Bool
  | .ow _ => true
  | .io _ _ => true
  | _ => false
def Sl.isAl : Sl → Bool
  | .al _ => true
  | _ => false
abbrev Ent := Option V × Sl
/-- the ground of a def's run: the heap at its entry, where shared data may lie, what is handed in to be changed -/
structure Gm where
  H0 : Hp
  B : Addr → Prop
  io : List Addr
def OwnA (E : List Ent) (a : Addr) : Prop := ∃ e ∈ E, e.2.own = true ∧ e.1 = some (.ref a)
def Nn (Γ : Gm) (E : List Ent) (a : Addr) : Prop := Γ.B a ∧ ¬ OwnA E a
def EntOk (K : PySem.W.Frag) (Γ : Gm) (S : List Ent) (N : Addr → Prop) (H : Hp) (e : Ent) : Prop :=
  match e.2 with
  | .no => True
  | .sh d => ∃ v, e.1 = some v ∧ R K N H v d
  | .ow d => ∃ p, e.1 = some (.ref p) ∧ Γ.H0 p = none ∧ Γ.B p ∧ Cn K N H p d
  | .io k d => ∃ p, e.1 = some (.ref p) ∧ Γ.io[k]? = some p ∧ Cn K N H p d
  | .al i => ∃ v x, e.1 = some v ∧ S[i]? = some (some v, x)
  | .raw v => e.1 = some v
  | .fz o kvs => ∃ p, e.1 = some (.ref p) ∧ N p ∧ H p = some (.frz o (.dK kvs))
  | .fr ds => ∃ p, e.1 = some (.ref p) ∧ N p ∧ ∃ o kvs, H p = some (.frz o (.dK kvs)) ∧ RK K N H kvs ds
  | .clo c ds => e.1 = some (.ref c.f) ∧ RA K N H c.ws ds ∧ ∀ q ∈ c.cs, H q.1 = some (LamX.CodeO q.1 q.2)
def Dst (x y : Ent) : Prop := x.2.own = true → y.2.own = true → ∀ a, x.1 = some (.ref a) → y.1 ≠ some (.ref a)
theorem Dst.symm {x y : Ent} (h : Dst x y) : Dst y x := fun h1 h2 a e1 e2 => h h2 h1 a e2 e1
structure Rel (K : PySem.W.Frag) (Γ : Gm) (S γ : List Ent) (H : Hp) : Prop where
  fresh : ∀ p, H p = none → Γ.B p
  keep : ∀ a u, Γ.H0 a = some u → a ∉ Γ.io → nt K a → H a = some u
  kfr : ∀ a, H a = none → Γ.H0 a = none
  nb : ∀ a, Γ.B a → nt K a
  tb : Tb K H
  kio : ∀ a ∈ Γ.io, H a ≠ none
  each : ∀ e ∈ S ++ γ, EntOk K Γ S (Nn Γ (S ++ γ)) H e
  dist : (S ++ γ).Pairwise Dst

section
variable {K : PySem.W.Frag} {Γ : Gm} {S S' γ γ' : List Ent} {H H' : Hp} {e : Ent}
theorem EntOk.mono {N N' : Addr → Prop} (h : EntOk K Γ S N H e) (hN : ∀ a, N a → H a ≠ none → N' a) (hT : ∀ a u, H a = some u → ¬ MutD (some u) → H' a = some u) (hM : ∀ a u, N a → H a = some u → H' a = some u)
    (hp : e.2.own = true → ∀ p, e.1 = some (.ref p) → ∀ u, H p = some u → H' p = some u) (hS : ∀ i v x, e.2 = .al i → S[i]? = some (some v, x) → ∃ x', S'[i]? = some (some v, x')) : EntOk K Γ S' N' H' e := by
  obtain ⟨o, sl⟩ := e
  cases sl with
  | no => exact True.intro
  | sh d => obtain ⟨v, e1, r⟩ := h; exact ⟨v, e1, r.mono hN hT hM⟩
  | ow d => obtain ⟨p, e1, e2, e3, c⟩ := h; exact ⟨p, e1, e2, e3, c.mono hN hT hM (hp rfl p e1)⟩
  | io k d => obtain ⟨p, e1, e2, c⟩ := h; exact ⟨p, e1, e2, c.mono hN hT hM (hp rfl p e1)⟩
  | al i => obtain ⟨v, x, e1, e2⟩ := h; obtain ⟨x', e3⟩ := hS i v x rfl e2; exact ⟨v, x', e1, e3⟩
  | raw v => exact h
  | fz o kvs => obtain ⟨p, e1, n, e2⟩ := h; exact ⟨p, e1, hN p n (by rw [e2]; exact fun z => nomatch z), hM p _ n e2⟩
  | fr ds => obtain ⟨p, e1, n, o, kvs, e2, r⟩ := h; exact ⟨p, e1, hN p n (by rw [e2]; exact fun z => nomatch z), o, kvs, hM p _ n e2, r.mono hN hT hM⟩
  | clo c ds => exact ⟨h.1, h.2.1.mono hN hT hM, fun q m => hT _ _ (h.2.2 q m) (fun z => z)⟩
theorem OwnA.of_sub {E E' : List Ent} {a : Addr} (h : OwnA E a) (s : ∀ e ∈ E, e.2.own = true → e ∈ E') : OwnA E' a := by
  obtain ⟨e, m, o, q⟩ := h; exact ⟨e, s e m o, o, q⟩
theorem OwnA.app {E E' : List Ent} {a : Addr} : OwnA (E ++ E') a ↔ OwnA E a ∨ OwnA E' a := by
  constructor
  · rintro ⟨e, m, o, q⟩
    rcases List.mem_append.mp m with m | m
    · exact .inl ⟨e, m, o, q⟩
    · exact .inr ⟨e, m, o, q⟩
  · rintro (⟨e, m, o, q⟩ | ⟨e, m, o, q⟩)
    · exact ⟨e, List.mem_append_left _ m, o, q⟩
    · exact ⟨e, List.mem_append_right _ m, o, q⟩
/-- the heap has grown -/
theorem Rel.same (r : Rel K Γ S γ H) (s : Same H H') : Rel K Γ S γ H' where
  fresh := fun p h => r.fresh p (s.free h)
  keep := fun a u h n t => s _ _ (r.keep a u h n t)
  kfr := fun a z => r.kfr a (s.free z)
  nb := r.nb
  tb := r.tb.same s
  kio := fun a m z => r.kio a m (s.free z)
  each := fun e m => (r.each e m).mono (fun _ n _ => n) (fun _ _ h _ => s _ _ h) (fun _ _ _ h => s _ _ h) (fun _ _ _ _ h => s _ _ h) fun _ _ x _ h => ⟨x, h⟩
  dist := r.dist
/-- behind a call -/
theorem Rel.ntO (r : Rel K Γ S γ H) {e : Ent} (m : e ∈ S ++ γ) (o : e.2.own = true) {p : Addr} (e1 : e.1 = some (.ref p)) : nt K p := by
  have q := r.each e m
  obtain ⟨ov, sl⟩ := e
  cases e1
  cases sl with
  | ow d => obtain ⟨p', e1, _, hB, _⟩ := q; cases e1; exact r.nb _ hB
  | io k d =>
    obtain ⟨p', e1, _, c⟩ := q
    cases e1
    refine r.tb.nt fun ps z => ?_
    have := c.mut
    rw [z] at this
    exact this
  | _ => cases o
theorem Rel.entD (r : Rel K Γ S γ H) (s : SameD K H H') : ∀ e ∈ S ++ γ, EntOk K Γ S (fun a => Nn Γ (S ++ γ) a ∧ H a ≠ none) H' e := fun e m =>
  (r.each e m).mono (fun _ n h => ⟨n, h⟩) (fun _ _ h k => s.ext _ _ (r.tb.ntD h k) h) (fun _ _ n h => s.ext _ _ (r.nb _ n.1) h) (fun o p e1 _ h => s.ext _ _ (r.ntO m o e1) h) fun _ _ x _ h => ⟨x, h⟩
theorem Rel.sameD (r : Rel K Γ S γ H) (s : SameD K H H') : Rel K Γ S γ H' where
  fresh := fun p h => r.fresh p (s.free _ h)
  keep := fun a u h n t => s.ext _ _ t (r.keep a u h n t)
  kfr := fun a z => r.kfr a (s.free _ z)
  nb := r.nb
  tb := s.tb
  kio := fun a m z => r.kio a m (s.free _ z)
  each := fun e m => (r.entD s e m).mono (fun _ n _ => n.1) (fun _ _ h _ => h) (fun _ _ _ h => h) (fun _ _ _ _ h => h) fun _ _ x _ h => ⟨x, h⟩
  dist := r.dist
/-- fewer values on the way, or less known of them -/
theorem Rel.sub (r : Rel K Γ S γ H) (hs : ∀ e ∈ γ', e ∈ γ) (hd : (S ++ γ').Pairwise Dst) : Rel K Γ S γ' H where
  fresh := r.fresh
  keep := r.keep
  kfr := r.kfr
  nb := r.nb
  tb := r.tb
  kio := r.kio
  each := fun e m => by
    have m' : e ∈ S ++ γ := (List.mem_append.mp m).elim (List.mem_append_left _) fun z => List.mem_append_right _ (hs _ z)
    exact (r.each e m').mono (fun a n _ => ⟨n.1, fun z => n.2 (z.of_sub fun x hx _ => (List.mem_append.mp hx).elim (List.mem_append_left _) fun z => List.mem_append_right _ (hs _ z))⟩) (fun _ _ h _ => h) (fun _ _ _ h => h) (fun _ _ _ _ h => h) fun _ _ x _ h => ⟨x, h⟩
  dist := hd
theorem Rel.sublist (r : Rel K Γ S γ H) (hs : γ'.Sublist γ) : Rel K Γ S γ' H := r.sub (fun _ m => hs.subset m) (r.dist.sublist ((List.Sublist.refl S).append hs))
theorem Rel.perm (r : Rel K Γ S γ H) (h : γ.Perm γ') : Rel K Γ S γ' H :=
  r.sub (fun _ m => h.mem_iff.mpr m) ((List.Perm.append_left S h).pairwise r.dist fun h => h.symm)
theorem Rel.pop (r : Rel K Γ S (e :: γ) H) : Rel K Γ S γ H := r.sublist (List.sublist_cons_self _ _)
theorem Rel.popN {γ₀ : List Ent} (r : Rel K Γ S (γ₀ ++ γ) H) : Rel K Γ S γ H := r.sublist (List.sublist_append_right _ _)
/-- a value that owns nothing comes onto the way -/
theorem Rel.push (r : Rel K Γ S γ H) (ho : e.2.own = false) (h : EntOk K Γ S (Nn Γ (S ++ γ)) H e) : Rel K Γ S (e :: γ) H where
  fresh := r.fresh
  keep := r.keep
  kfr := r.kfr
  nb := r.nb
  tb := r.tb
  kio := r.kio
  each := fun x m => by
    have own : ∀ a, OwnA (S ++ e :: γ) a → OwnA (S ++ γ) a := fun a z => z.of_sub fun y hy oy => by
      rcases List.mem_append.mp hy with hy | hy
      · exact List.mem_append_left _ hy
      · rcases List.mem_cons.mp hy with rfl | hy
        · rw [ho] at oy; cases oy
        · exact List.mem_append_right _ hy
    have base : EntOk K Γ S (Nn Γ (S ++ γ)) H x := by
      rcases List.mem_append.mp m with m | m
      · exact r.each x (List.mem_append_left _ m)
      · rcases List.mem_cons.mp m with rfl | m
        · exact h
        · exact r.each x (List.mem_append_right _ m)
    exact base.mono (fun a n _ => ⟨n.1, fun z => n.2 (own a z)⟩) (fun _ _ h _ => h) (fun _ _ _ h => h) (fun _ _ _ _ h => h) fun _ _ x _ h => ⟨x, h⟩
  dist := by
    have h1 := r.dist
    rw [List.pairwise_append] at h1 ⊢
    obtain ⟨a, b, c⟩ := h1
    refine ⟨a, List.pairwise_cons.mpr ⟨fun y _ o => (by rw [ho] at o; cases o), b⟩, fun x hx y hy => ?_⟩
    rcases List.mem_cons.mp hy with rfl | hy
    · intro _ o; rw [ho] at o; cases o
    · exact c x hx y hy
theorem Rel.get (r : Rel K Γ S γ H) {v : V} {d : PyData} (m : (some v, Sl.sh d) ∈ S ++ γ) : R K (Nn Γ (S ++ γ)) H v d := by
  obtain ⟨v', e1, q⟩ := r.each _ m
  cases e1
  exact q
/-- a new object, owned -/
theorem Rel.made (r : Rel K Γ S γ H) (s : Same H H') {p : Addr} {d : PyData} (hn : H p = none) (hc : Cn K (fun a => Nn Γ (S ++ γ) a ∧ H a ≠ none) H' p d) : Rel K Γ S ((some (.ref p), .ow d) :: γ) H' where
  fresh := fun p h => r.fresh p (s.free h)
  keep := fun a u h n t => s _ _ (r.keep a u h n t)
  kfr := fun a z => r.kfr a (s.free z)
  nb := r.nb
  tb := r.tb.same s
  kio := fun a m z => r.kio a m (s.free z)
  each := fun x m => by
    have own : ∀ a, OwnA (S ++ (some (.ref p), .ow d) :: γ) a → OwnA (S ++ γ) a ∨ a = p := fun a ⟨y, hy, oy, ey⟩ => by
      rcases List.mem_append.mp hy with hy | hy
      · exact .inl ⟨y, List.mem_append_left _ hy, oy, ey⟩
      · rcases List.mem_cons.mp hy with rfl | hy
        · cases ey; exact .inr rfl
        · exact .inl ⟨y, List.mem_append_right _ hy, oy, ey⟩
    have nn : ∀ a, Nn Γ (S ++ γ) a → H a ≠ none → Nn Γ (S ++ (some (.ref p), .ow d) :: γ) a := fun a n h => ⟨n.1, fun z => by
      rcases own a z with z | rfl
      · exact n.2 z
      · exact h hn⟩
    have old : ∀ x ∈ S ++ γ, EntOk K Γ S (Nn Γ (S ++ (some (.ref p), .ow d) :: γ)) H' x := fun x m =>
      (r.each x m).mono nn (fun _ _ h _ => s _ _ h) (fun _ _ _ h => s _ _ h) (fun _ _ _ _ h => s _ _ h) fun _ _ x _ h => ⟨x, h⟩
    rcases List.mem_append.mp m with m | m
    · exact old x (List.mem_append_left _ m)
    · rcases List.mem_cons.mp m with rfl | m
      · refine ⟨p, rfl, ?_, r.fresh p hn, hc.mono (fun a n _ => nn a n.1 n.2) (fun _ _ h _ => h) (fun _ _ _ h => h) fun _ h => h⟩
        exact r.kfr p hn
      · exact old x (List.mem_append_right _ m)
  dist := by
    have h1 := r.dist
    have ne : ∀ x ∈ S ++ γ, x.2.own = true → x.1 ≠ some (.ref p) := fun x m o z => by
      have q := r.each x m
      obtain ⟨ov, sl⟩ := x
      cases sl with
      | ow d => obtain ⟨p', e1, _, _, c⟩ := q; rw [z] at e1; cases e1; exact c.there hn
      | io k d => obtain ⟨p', e1, _, c⟩ := q; rw [z] at e1; cases e1; exact c.there hn
      | _ => cases o
    rw [List.pairwise_append] at h1 ⊢
    obtain ⟨a, b, c⟩ := h1
    refine ⟨a, List.pairwise_cons.mpr ⟨fun y hy _ o a e1 e2 => ?_, b⟩, fun x hx y hy => ?_⟩
    · cases e1
      exact ne y (List.mem_append_right _ hy) o e2
    · rcases List.mem_cons.mp hy with rfl | hy
      · intro o _ a e1 e2
        cases e2
        exact ne x (List.mem_append_left _ hx) o e1
      · exact c x hx y hy
/-- what is owned is let go: shared from now on -/
theorem Rel.release {v : Option V} {d : PyData} (r : Rel K Γ S ((v, .ow d) :: γ) H) : Rel K Γ S ((v, .sh d) :: γ) H := by
  obtain ⟨p, rfl, _, hB, hc⟩ := r.each _ (List.mem_append_right _ List.mem_cons_self)
  have hn : ∀ x ∈ S ++ γ, x.2.own = true → x.1 ≠ some (.ref p) := fun x m o z => by
    have h1 := r.dist
    rw [List.pairwise_append, List.pairwise_cons] at h1
    obtain ⟨_, ⟨b, _⟩, c⟩ := h1
    rcases List.mem_append.mp m with m | m
    · exact c x m _ List.mem_cons_self o rfl p z rfl
    · exact b x m rfl o p rfl z
  refine r.pop.push rfl ⟨.ref p, rfl, ?_⟩
  refine (hc.mono (N' := Nn Γ (S ++ γ)) (fun a n _ => ⟨n.1, fun z => n.2 (z.of_sub fun x hx _ => (List.mem_append.mp hx).elim (List.mem_append_left _) fun z => List.mem_append_right _ (List.mem_cons_of_mem _ z))⟩) (fun _ _ h _ => h) (fun _ _ _ h => h) fun _ h => h).val ⟨hB, ?_⟩
  · rintro ⟨x, m, o, z⟩
    exact hn x m o z
/-- a value into a slot -/
theorem Rel.store {i : Nat} (r : Rel K Γ S (e :: γ) H) (hi : i < S.length) (ha : e.2.isAl = false) (hg : ∀ x ∈ S ++ γ, x.2.isAl = false) : Rel K Γ (S.set i e) γ H where
  fresh := r.fresh
  keep := r.keep
  kfr := r.kfr
  nb := r.nb
  tb := r.tb
  kio := r.kio
  each := fun x m => by
    have sub : ∀ x ∈ S.set i e ++ γ, x ∈ S ++ e :: γ := fun x m => by
      rcases List.mem_append.mp m with m | m
      · rcases List.mem_or_eq_of_mem_set m with m | rfl
        · exact List.mem_append_left _ m
        · exact List.mem_append_right _ List.mem_cons_self
      · exact List.mem_append_right _ (List.mem_cons_of_mem _ m)
    have noal : x.2.isAl = false := by
      have := sub x m
      rcases List.mem_append.mp this with q | q
      · exact hg x (List.mem_append_left _ q)
      · rcases List.mem_cons.mp q with rfl | q
        · exact ha
        · exact hg x (List.mem_append_right _ q)
    refine (r.each x (sub x m)).mono (fun a n _ => ⟨n.1, fun z => n.2 (z.of_sub fun y hy _ => sub y hy)⟩) (fun _ _ h _ => h) (fun _ _ _ h => h) (fun _ _ _ _ h => h) fun j v y q _ => ?_
    rw [q] at noal; cases noal
  dist := by
    have h1 := r.dist
    have hp : (S ++ e :: γ).Perm (S.getD i e :: (S.set i e ++ γ)) := by
      have e1 : S = S.take i ++ S[i] :: S.drop (i + 1) := by
        rw [List.getElem_cons_drop, List.take_append_drop]
      have e2 : S.set i e = S.take i ++ e :: S.drop (i + 1) := by
        rw [List.set_eq_take_append_cons_drop, if_pos hi]
      rw [e2, List.getD_eq_getElem?_getD, List.getElem?_eq_getElem hi, Option.getD_some]
      conv => lhs; rw [e1]
      refine (List.Perm.append_right (e :: γ) List.perm_middle).trans ?_
      refine List.Perm.cons _ ?_
      show ((S.take i ++ S.drop (i + 1)) ++ e :: γ).Perm ((S.take i ++ e :: S.drop (i + 1)) ++ γ)
      simp only [List.append_assoc, List.cons_append]
      exact List.Perm.append_left _ List.perm_middle
    exact (List.pairwise_cons.mp (hp.pairwise h1 fun h => h.symm)).2
end

section
variable {K : PySem.W.Frag} {Γ : Gm} {S S' γ γ' : List Ent} {H H' : Hp} {e : Ent}
theorem set_perm {i : Nat} {S : List Ent} {e x : Ent} (hi : S[i]? = some x) : (S ++ e :: γ).Perm (x :: (S.set i e ++ γ)) := by
  obtain ⟨hl, ex⟩ := List.getElem?_eq_some_iff.mp hi
  have e1 : S = S.take i ++ S[i] :: S.drop (i + 1) := by
    rw [List.getElem_cons_drop, List.take_append_drop]
  have e2 : S.set i e = S.take i ++ e :: S.drop (i + 1) := by
    rw [List.set_eq_take_append_cons_drop, if_pos hl]
  rw [e2, ← ex]
  conv => lhs; rw [e1]
  refine (List.Perm.append_right (e :: γ) List.perm_middle).trans ?_
  refine List.Perm.cons _ ?_
  show ((S.take i ++ S.drop (i + 1)) ++ e :: γ).Perm ((S.take i ++ e :: S.drop (i + 1)) ++ γ)
  simp only [List.append_assoc, List.cons_append]
  exact List.Perm.append_left _ List.perm_middle
/-- a value back into its slot -/
theorem Rel.put {i : Nat} {x : Sl} (r : Rel K Γ S (e :: γ) H) (hi : S[i]? = some (e.1, x)) : Rel K Γ (S.set i e) γ H where
  fresh := r.fresh
  keep := r.keep
  kfr := r.kfr
  nb := r.nb
  tb := r.tb
  kio := r.kio
  each := fun y m => by
    have sub : ∀ x ∈ S.set i e ++ γ, x ∈ S ++ e :: γ := fun x m => by
      rcases List.mem_append.mp m with m | m
      · rcases List.mem_or_eq_of_mem_set m with m | rfl
        · exact List.mem_append_left _ m
        · exact List.mem_append_right _ List.mem_cons_self
      · exact List.mem_append_right _ (List.mem_cons_of_mem _ m)
    refine (r.each y (sub y m)).mono (fun a n _ => ⟨n.1, fun z => n.2 (z.of_sub fun y hy _ => sub y hy)⟩) (fun _ _ h _ => h) (fun _ _ _ h => h) (fun _ _ _ _ h => h) fun j v z q hz => ?_
    by_cases hj : i = j
    · subst hj
      rw [hi] at hz
      obtain ⟨hl, _⟩ := List.getElem?_eq_some_iff.mp hi
      have hz := Option.some.inj hz
      injection hz with h1 h2
      exact ⟨e.2, by rw [List.getElem?_set_self hl]; rw [← h1]⟩
    · exact ⟨z, by rw [List.getElem?_set_ne hj]; exact hz⟩
  dist := (List.pairwise_cons.mp ((set_perm hi).pairwise r.dist fun h => h.symm)).2
/-- a slot's thing taken out of it -/
theorem Rel.take {i : Nat} (r : Rel K Γ S γ H) (hi : S[i]? = some e) : Rel K Γ (S.set i (e.1, .no)) (e :: γ) H := by
  have hp : (S ++ γ).Perm (S.set i (e.1, .no) ++ e :: γ) → True := fun _ => True.intro
  obtain ⟨hl, ex⟩ := List.getElem?_eq_some_iff.mp hi
  have sub : ∀ x ∈ S.set i (e.1, .no) ++ e :: γ, x ∈ S ++ γ ∨ x = (e.1, .no) := fun x m => by
    rcases List.mem_append.mp m with m | m
    · rcases List.mem_or_eq_of_mem_set m with m | rfl
      · exact .inl (List.mem_append_left _ m)
      · exact .inr rfl
    · rcases List.mem_cons.mp m with rfl | m
      · exact .inl (List.mem_append_left _ (List.mem_of_getElem? hi))
      · exact .inl (List.mem_append_right _ m)
  refine ⟨r.fresh, r.keep, r.kfr, r.nb, r.tb, r.kio, fun y m => ?_, ?_⟩
  · rcases sub y m with m' | rfl
    · refine (r.each y m').mono (fun a n _ => ⟨n.1, fun z => n.2 (z.of_sub fun y hy oy => ?_)⟩) (fun _ _ h _ => h) (fun _ _ _ h => h) (fun _ _ _ _ h => h) fun j v z q hz => ?_
      · rcases sub y hy with h | rfl
        · exact h
        · cases oy
      · by_cases hj : i = j
        · subst hj
          rw [hi] at hz
          have hz := Option.some.inj hz
          exact ⟨.no, by rw [List.getElem?_set_self hl, hz]⟩
        · exact ⟨z, by rw [List.getElem?_set_ne hj]; exact hz⟩
    · exact True.intro
  · have h1 : ((e.1, Sl.no) :: (S ++ γ)).Pairwise Dst := List.pairwise_cons.mpr ⟨fun y _ o => (by cases o), r.dist⟩
    have h2 : (S ++ (e.1, Sl.no) :: γ).Perm ((e.1, Sl.no) :: (S ++ γ)) := List.perm_middle
    have h3 := (h2.symm.trans (set_perm (γ := γ) (e := (e.1, Sl.no)) hi))
    have h4 : (S.set i (e.1, Sl.no) ++ e :: γ).Perm (e :: (S.set i (e.1, Sl.no) ++ γ)) := List.perm_middle
    exact (h3.trans h4.symm).pairwise h1 fun h => h.symm
/-- an owned object on the way is written -/
theorem Rel.write {p : Addr} {s s' : Sl} {o : HO} {d' : PyData} (r : Rel K Γ S ((some (.ref p), s) :: γ) H) (ho : s.own = true) (hs : (∃ d, s = .ow d ∧ s' = .ow d') ∨ ∃ k d, s = .io k d ∧ s' = .io k d')
    (hc : Cn K (Nn Γ (S ++ (some (.ref p), s) :: γ)) (upd H p o) p d') : Rel K Γ S ((some (.ref p), s') :: γ) (upd H p o) := by
  have hm' : Mut (H p) ∧ MutD (H p) := by
    have q := r.each _ (List.mem_append_right S (List.mem_cons_self (a := (some (V.ref p), s)) (l := γ)))
    rcases hs with ⟨d, rfl, _⟩ | ⟨k, d, rfl, _⟩
    · obtain ⟨p', e1, _, _, c⟩ := q; cases e1; exact ⟨c.mut, c.mutD⟩
    · obtain ⟨p', e1, _, c⟩ := q; cases e1; exact ⟨c.mut, c.mutD⟩
  have hm := hm'.2
  have ho' : s'.own = true := by rcases hs with ⟨d, _, rfl⟩ | ⟨k, d, _, rfl⟩ <;> rfl
  have ownp : OwnA (S ++ (some (.ref p), s) :: γ) p := ⟨_, List.mem_append_right _ List.mem_cons_self, ho, rfl⟩
  have own : ∀ a, OwnA (S ++ (some (.ref p), s') :: γ) a → OwnA (S ++ (some (.ref p), s) :: γ) a := fun a ⟨y, hy, oy, ey⟩ => by
    rcases List.mem_append.mp hy with hy | hy
    · exact ⟨y, List.mem_append_left _ hy, oy, ey⟩
    · rcases List.mem_cons.mp hy with rfl | hy
      · exact ⟨_, List.mem_append_right _ List.mem_cons_self, ho, ey⟩
      · exact ⟨y, List.mem_append_right _ (List.mem_cons_of_mem _ hy), oy, ey⟩
  have hn : ∀ x ∈ S ++ γ, x.2.own = true → x.1 ≠ some (.ref p) := fun x m o z => by
    have h1 := r.dist
    rw [List.pairwise_append, List.pairwise_cons] at h1
    obtain ⟨_, ⟨b, _⟩, c⟩ := h1
    rcases List.mem_append.mp m with m | m
    · exact c x m _ List.mem_cons_self o ho p z rfl
    · exact b x m ho o p rfl z
  have nN : ∀ a, Nn Γ (S ++ (some (.ref p), s) :: γ) a → a ≠ p := fun a n z => n.2 (z ▸ ownp)
  have old : ∀ x ∈ S ++ γ, EntOk K Γ S (Nn Γ (S ++ (some (.ref p), s') :: γ)) (upd H p o) x := fun x m => by
    have m' : x ∈ S ++ (some (.ref p), s) :: γ := (List.mem_append.mp m).elim (List.mem_append_left _) fun z => List.mem_append_right _ (List.mem_cons_of_mem _ z)
    refine (r.each x m').mono (fun a n _ => ⟨n.1, fun z => n.2 (own a z)⟩) (fun a u h nm => ?_) (fun a u n h => ?_) (fun ox q e1 u h => ?_) fun _ _ x _ h => ⟨x, h⟩
    · rw [upd_ne (fun z => nm (by rw [z] at h; rw [← h]; exact hm))]; exact h
    · rw [upd_ne (nN a n)]; exact h
    · rw [upd_ne (fun z => hn x m ox (by rw [e1, z]))]; exact h
  refine ⟨fun q h => r.fresh q ?_, fun a u h n t => ?_, fun a z => r.kfr a ?_, r.nb, r.tb.but hm'.1 hm'.2 fun a u n e => by rw [upd_ne n]; exact e, fun a m => ?_, fun x m => ?_, ?_⟩
  · by_cases z : q = p
    · subst z; rw [upd_same] at h; cases h
    · rw [upd_ne z] at h; exact h
  rotate_left
  · by_cases q : a = p
    · subst q; rw [upd_same] at z; cases z
    · rw [upd_ne q] at z; exact z
  rotate_left 3
  · have h1 := r.keep a u h n t
    rw [upd_ne]
    · exact h1
    · intro z
      subst z
      have q := r.each _ (List.mem_append_right S (List.mem_cons_self (a := (some (V.ref a), s)) (l := γ)))
      rcases hs with ⟨d, rfl, _⟩ | ⟨k, d, rfl, _⟩
      · obtain ⟨p', e1, e2, _⟩ := q; cases e1; rw [h] at e2; cases e2
      · obtain ⟨p', e1, e2, c⟩ := q; cases e1; exact n (List.mem_of_getElem? e2)
  · by_cases z : a = p
    · subst z; rw [upd_same]; exact fun z => nomatch z
    · rw [upd_ne z]; exact r.kio a m
  · rcases List.mem_append.mp m with m | m
    · exact old x (List.mem_append_left _ m)
    · rcases List.mem_cons.mp m with rfl | m
      · have q := r.each _ (List.mem_append_right S (List.mem_cons_self (a := (some (V.ref p), s)) (l := γ)))
        have hc' := hc.mono (N' := Nn Γ (S ++ (some (V.ref p), s') :: γ)) (fun a n _ => ⟨n.1, fun z => n.2 (own a z)⟩) (fun _ _ h _ => h) (fun _ _ _ h => h) fun _ h => h
        rcases hs with ⟨d, rfl, rfl⟩ | ⟨k, d, rfl, rfl⟩
        · obtain ⟨p', e1, e2, e3, c⟩ := q
          cases e1
          exact ⟨p, rfl, e2, e3, hc'⟩
        · obtain ⟨p', e1, e2, c⟩ := q
          cases e1
          exact ⟨p, rfl, e2, hc'⟩
      · exact old x (List.mem_append_right _ m)
  · have h1 := r.dist
    rw [List.pairwise_append, List.pairwise_cons] at h1 ⊢
    obtain ⟨a, ⟨b1, b2⟩, c⟩ := h1
    refine ⟨a, ⟨fun y hy _ o => b1 y hy ho o, b2⟩, fun x hx y hy => ?_⟩
    rcases List.mem_cons.mp hy with rfl | hy
    · exact fun o _ a e1 e2 => c x hx (some (V.ref p), s) List.mem_cons_self o ho a e1 e2
    · exact c x hx y (List.mem_cons_of_mem _ hy)
end

structure Lk (σ : L2.St) (δ : List Sl) : Prop where
  eq : δ.length = σ.length
  na : ∀ s ∈ δ, s.isAl = false
theorem Lk.set {σ : L2.St} {δ : List Sl} (h : Lk σ δ) {i : Nat} {s : Sl} (ha : s.isAl = false) : Lk σ (δ.set i s) :=
  ⟨by rw [List.length_set]; exact h.eq, fun x m => (List.mem_or_eq_of_mem_set m).elim (h.na x) fun e => e ▸ ha⟩
/-- the slots, the values on the way -/
structure RS (K : PySem.W.Frag) (Γ : Gm) (σ : L2.St) (δ : List Sl) (γ : List Ent) (H : Hp) : Prop where
  len : Lk σ δ
  rel : Rel K Γ (σ.zip δ) γ H

end DL

set_option Elab.async false
set_option linter.all false
set_option maxRecDepth 100000
set_option maxHeartbeats 1000000
namespace DL
open PySem PySem.Spec PyProof.Rows L2

/-! ### what a piece comes to -/
structure Ex where
  cls : Str
  val : Option (Str × PyData) := none
inductive Res (α : Type) where
  | ok (a : α) (δ : List Sl)
  | er (e : Ex) (δ : List Sl)
  | no
def M (α : Type) := List Sl → Res α
def Res.bind {α β : Type} (x : Res α) (f : α → List Sl → Res β) : Res β :=
  match x with
  | .ok a δ => f a δ
  | .er e δ => .er e δ
  | .no => .no
def M.bind {α β : Type} (x : M α) (f : α → M β) : M β := fun δ => (x δ).bind f
def M.pure {α : Type} (a : α) : M α := fun δ => .ok a δ
instance : Monad M where
  pure := M.pure
  bind := M.bind
theorem bind_eq {α β : Type} (x : M α) (f : α → M β) (δ : List Sl) : (x >>= f) δ = (x δ).bind f := rfl
theorem pure_eq {α : Type} (a : α) (δ : List Sl) : (pure a : M α) δ = .ok a δ := rfl
def stuck {α : Type} : M α := fun _ => .no

abbrev XW := Ex → L2.St → Hp → Prop
section
variable {K : PySem.W.Frag} {W : XW} {Γ : Gm} {σ : L2.St} {δ δ' : List Sl} {γ γ' : List Ent} {H H' : Hp} {α β : Type}
/-- .. is as wanted -/
def Post (K : PySem.W.Frag) (W : XW) (Γ : Gm) (σ : L2.St) (γ : List Ent) (x : Res α) (k : α → List Sl → Prop) : Prop :=
  match x with
  | .ok a δ => k a δ
  | .er e δ => ∀ H', RS K Γ σ δ γ H' → W e σ H'
  | .no => False
theorem Post.imp {x : Res α} {k k' : α → List Sl → Prop} (h : Post K W Γ σ γ x k) (f : ∀ a δ, k a δ → k' a δ) : Post K W Γ σ γ x k' := by
  cases x with
  | ok a δ => exact f _ _ h
  | er e δ => exact h
  | no => exact h
theorem Post.bind {x : Res α} {f : α → List Sl → Res β} {k : β → List Sl → Prop} (h : Post K W Γ σ γ (x.bind f) k) : Post K W Γ σ γ x fun a δ => Post K W Γ σ γ (f a δ) k := by
  cases x with
  | ok a δ => exact h
  | er e δ => exact h
  | no => exact h
theorem RS.popN {γ₀ : List Ent} (r : RS K Γ σ δ (γ₀ ++ γ) H) : RS K Γ σ δ γ H := ⟨r.len, r.rel.popN⟩
theorem RS.pop {e : Ent} (r : RS K Γ σ δ (e :: γ) H) : RS K Γ σ δ γ H := ⟨r.len, r.rel.pop⟩
theorem RS.same (r : RS K Γ σ δ γ H) (s : Same H H') : RS K Γ σ δ γ H' := ⟨r.len, r.rel.same s⟩
theorem RS.sameD (r : RS K Γ σ δ γ H) (s : SameD K H H') : RS K Γ σ δ γ H' := ⟨r.len, r.rel.sameD s⟩
theorem RS.perm (r : RS K Γ σ δ γ H) (h : γ.Perm γ') : RS K Γ σ δ γ' H := ⟨r.len, r.rel.perm h⟩
theorem RS.sublist (r : RS K Γ σ δ γ H) (h : γ'.Sublist γ) : RS K Γ σ δ γ' H := ⟨r.len, r.rel.sublist h⟩
/-- under more values on the way -/
theorem Post.ext {x : Res α} {k : α → List Sl → Prop} (h : Post K W Γ σ γ x k) (γ₀ : List Ent) : Post K W Γ σ (γ₀ ++ γ) x k := by
  cases x with
  | ok a δ => exact h
  | er e δ => exact fun H' r => h H' r.popN
  | no => exact h
end

/-- an expression's reading -/
def tV (K : PySem.W.Frag) (W : XW) (m : M Sl) : TE := fun σ H Q => ∃ Γ δ γ, RS K Γ σ δ γ H ∧ Post K W Γ σ γ (m δ) fun r δ' => ∀ v H', RS K Γ σ δ' ((some v, r) :: γ) H' → Q v H'
/-- arguments -/
def tAs (K : PySem.W.Frag) (W : XW) (m : M (List Sl)) : TA := fun σ H Q => ∃ Γ δ γ, RS K Γ σ δ γ H ∧
  Post K W Γ σ γ (m δ) fun rs δ' => ∀ vs H', vs.length = rs.length → RS K Γ σ δ' ((vs.map some).zip rs ++ γ) H' → Q vs H'
/-- a test -/
def tBo (K : PySem.W.Frag) (W : XW) (m : M Bool) : TT := fun σ H Q => ∃ Γ δ γ, RS K Γ σ δ γ H ∧ Post K W Γ σ γ (m δ) fun b δ' => ∀ H', RS K Γ σ δ' γ H' → Q b H'

theorem PE.imp {X : Cx} {e : Expr} {t t' : TE} (h : PE X e t) (f : ∀ σ H Q, t' σ H Q → t σ H Q) : PE X e t' := ⟨fun pins s σ H Q I q => h.run pins s σ H Q I (f _ _ _ q)⟩
theorem PT.imp {X : Cx} {e : Expr} {t t' : TT} (h : PT X e t) (f : ∀ σ H Q, t' σ H Q → t σ H Q) : PT X e t' := ⟨fun pins s σ H Q I q => h.run pins s σ H Q I (f _ _ _ q)⟩
theorem PW.imp {X : Cx} {e : Expr} {t t' : TT} (h : PW X e t) (f : ∀ σ H Q, t' σ H Q → t σ H Q) : PW X e t' := ⟨fun wh pins s σ H Q I q => h.run wh pins s σ H Q I (f _ _ _ q)⟩
theorem PA.imp {X : Cx} {e : List Expr} {t t' : TA} (h : PA X e t) (f : ∀ σ H Q, t' σ H Q → t σ H Q) : PA X e t' := ⟨fun pos pins s σ H Q I q => h.run pos pins s σ H Q I (f _ _ _ q)⟩
theorem PS.imp {X : Cx} {e : Stmt} {t t' : TS} (h : PS X e t) (f : ∀ D σ H, t' D σ H → t D σ H) : PS X e t' := ⟨fun pins s σ H D I q => h.run pins s σ H D I (f _ _ _ q)⟩
theorem PSs.imp {X : Cx} {e : List Stmt} {t t' : TS} (h : PSs X e t) (f : ∀ D σ H, t' D σ H → t D σ H) : PSs X e t' := ⟨fun pins s σ H D I q => h.run pins s σ H D I (f _ _ _ q)⟩

/-! ### slots -/
section
variable {K : PySem.W.Frag} {W : XW} {Γ : Gm} {σ : L2.St} {δ δ' : List Sl} {γ γ' : List Ent} {H H' : Hp}
theorem zip_at {i : Nat} {s : Sl} (hl : δ.length = σ.length) (h : δ[i]? = some s) : ∃ o, σ[i]? = some o ∧ (σ.zip δ)[i]? = some (o, s) := by
  obtain ⟨h1, h2⟩ := List.getElem?_eq_some_iff.mp h
  have h3 : i < σ.length := by omega
  refine ⟨σ[i], List.getElem?_eq_getElem h3, ?_⟩
  rw [List.getElem?_zip_eq_some]
  exact ⟨List.getElem?_eq_getElem h3, h⟩
theorem zip_set {i : Nat} {s : Sl} {o : Option V} : (σ.zip δ).set i (o, s) = (σ.set i o).zip (δ.set i s) := by
  induction σ generalizing δ i with
  | nil => simp
  | cons a r ih =>
    cases δ with
    | nil => cases i <;> simp
    | cons b t =>
      cases i with
      | zero => rfl
      | succ i => simp [ih]
theorem set_id {i : Nat} {o : Option V} (h : σ[i]? = some o) : σ.set i o = σ := by
  obtain ⟨h1, h2⟩ := List.getElem?_eq_some_iff.mp h
  rw [← h2, List.set_getElem_self]
theorem RS.take {i : Nat} {s : Sl} (r : RS K Γ σ δ γ H) (h : δ[i]? = some s) : ∃ o, σ[i]? = some o ∧ RS K Γ σ (δ.set i .no) ((o, s) :: γ) H := by
  obtain ⟨o, h1, h2⟩ := zip_at r.len.eq h
  refine ⟨o, h1, ⟨r.len.set rfl, ?_⟩⟩
  have q := r.rel.take h2
  rw [zip_set, set_id h1] at q
  exact q
theorem RS.put {i : Nat} {s s' : Sl} {o : Option V} (r : RS K Γ σ δ ((o, s) :: γ) H) (h : σ[i]? = some o) (hd : δ[i]? = some s') (ha : s.isAl = false := by rfl) : RS K Γ σ (δ.set i s) γ H := by
  obtain ⟨o', h1, h2⟩ := zip_at r.len.eq hd
  rw [h] at h1
  cases h1
  refine ⟨r.len.set ha, ?_⟩
  have q := r.rel.put h2
  rw [zip_set, set_id h] at q
  exact q
theorem RS.get {v : V} {d : PyData} (r : RS K Γ σ δ γ H) (m : (some v, Sl.sh d) ∈ σ.zip δ ++ γ) : R K (Nn Γ (σ.zip δ ++ γ)) H v d := r.rel.get m
theorem RS.dup {v : V} {d : PyData} (r : RS K Γ σ δ γ H) (m : (some v, Sl.sh d) ∈ σ.zip δ ++ γ) : RS K Γ σ δ ((some v, Sl.sh d) :: γ) H := ⟨r.len, r.rel.push rfl ⟨v, rfl, r.get m⟩⟩
theorem RS.release {v : Option V} {d : PyData} (r : RS K Γ σ δ ((v, .ow d) :: γ) H) : RS K Γ σ δ ((v, .sh d) :: γ) H := ⟨r.len, r.rel.release⟩
theorem mem_zip {i : Nat} {o : Option V} {s : Sl} (h1 : σ[i]? = some o) (h2 : δ[i]? = some s) : (o, s) ∈ σ.zip δ := List.mem_of_getElem? (List.getElem?_zip_eq_some.mpr ⟨h1, h2⟩)

def varM (i : Nat) : M Sl := fun δ => match δ[i]? with
  | some (.sh d) => .ok (.sh d) δ
  | some (.ow d) => .ok (.sh d) (δ.set i (.sh d))
  | some (.raw v) => .ok (.raw v) δ
  | _ => .no
def rdM (i : Nat) : M Sl := fun δ => match δ[i]? with
  | some (.sh d) => .ok (.sh d) δ
  | some (.ow _) => .ok (.al i) δ
  | some (.io _ _) => .ok (.al i) δ
  | some (.raw v) => .ok (.raw v) δ
  | some (.fr ds) => .ok (.sh (.dict ds)) δ
  | _ => .no
theorem fr_at {i : Nat} {ds : List (PyData × PyData)} (r : RS K Γ σ δ γ H) (h : δ[i]? = some (.fr ds)) : ∃ v, σ[i]? = some (some v) ∧ RS K Γ σ δ ((some v, .sh (.dict ds)) :: γ) H := by
  obtain ⟨o, h1, h2⟩ := zip_at r.len.eq h
  obtain ⟨p, e1, n, o', kvs, e, q⟩ := r.rel.each _ (List.mem_append_left _ (List.mem_of_getElem? h2))
  have e2 : o = some (.ref p) := e1
  subst e2
  exact ⟨_, h1, ⟨r.len, r.rel.push rfl ⟨_, rfl, .dk n (.inr ⟨o', e⟩) q⟩⟩⟩
theorem sh_at {i : Nat} {d : PyData} (r : RS K Γ σ δ γ H) (h : δ[i]? = some (.sh d)) : ∃ v, σ[i]? = some (some v) ∧ RS K Γ σ δ ((some v, .sh d) :: γ) H := by
  obtain ⟨o, h1, h2⟩ := zip_at r.len.eq h
  obtain ⟨v, e1, q⟩ := r.rel.each _ (List.mem_append_left _ (List.mem_of_getElem? h2))
  have e2 : o = some v := e1
  subst e2
  exact ⟨v, h1, r.dup (List.mem_append_left _ (List.mem_of_getElem? h2))⟩
theorem raw_at {i : Nat} {v : V} (r : RS K Γ σ δ γ H) (h : δ[i]? = some (.raw v)) : σ[i]? = some (some v) ∧ RS K Γ σ δ ((some v, .raw v) :: γ) H := by
  obtain ⟨o, h1, h2⟩ := zip_at r.len.eq h
  have e1 := r.rel.each _ (List.mem_append_left _ (List.mem_of_getElem? h2))
  have e2 : o = some v := e1
  subst e2
  exact ⟨h1, ⟨r.len, r.rel.push rfl rfl⟩⟩
theorem ow_at {i : Nat} {d : PyData} (r : RS K Γ σ δ γ H) (h : δ[i]? = some (.ow d)) : ∃ v, σ[i]? = some (some v) ∧ RS K Γ σ (δ.set i (.sh d)) ((some v, .sh d) :: γ) H := by
  obtain ⟨o, h1, h2⟩ := r.take h
  have h3 := h2.release
  obtain ⟨v, e1, q⟩ := h3.rel.each _ (List.mem_append_right _ List.mem_cons_self)
  have e2 : o = some v := e1
  subst e2
  have h4 := h3.dup (List.mem_append_right _ List.mem_cons_self)
  have hl : i < δ.length := (List.getElem?_eq_some_iff.mp h).1
  have h5 := h4.put h1 (s' := .no) (by rw [List.getElem?_set_self hl])
  rw [List.set_set] at h5
  exact ⟨v, h1, h5⟩
theorem al_at {i : Nat} {s : Sl} (r : RS K Γ σ δ γ H) (h : δ[i]? = some s) (ho : s.own = true) : ∃ v, σ[i]? = some (some v) ∧ RS K Γ σ δ ((some v, .al i) :: γ) H := by
  obtain ⟨o, h1, h2⟩ := zip_at r.len.eq h
  have q := r.rel.each _ (List.mem_append_left _ (List.mem_of_getElem? h2))
  have : ∃ v, o = some v := by
    cases s with
    | ow d => obtain ⟨p, e1, _⟩ := q; exact ⟨_, e1⟩
    | io k d => obtain ⟨p, e1, _⟩ := q; exact ⟨_, e1⟩
    | _ => cases ho
  obtain ⟨v, rfl⟩ := this
  exact ⟨v, h1, ⟨r.len, r.rel.push rfl ⟨v, s, rfl, h2⟩⟩⟩
end
section
variable {X : Cx} {W : XW}
theorem pv_esc (i : Nat) {x : Str} {pos : Pos} (hN : X.N[i]? = some x := by rfl) (hv : Vis X.env.scope x := by first | exact Or.inl rfl | exact Or.inr (Or.inl rfl) | exact Or.inr (Or.inr rfl)) (hd : (x == ("__debug__" : Str)) = false := by decide)
    (hcd : (x == ("__classdict__" : Str)) = false := by decide) : PE X (.Name x pos) (tV X.K W (varM i)) := PE.imp (pe_var hN hv hd hcd) fun σ H Q ⟨Γ, δ, γ, r, p⟩ => by
  unfold varM at p
  cases h : δ[i]? with
  | none => rw [h] at p; exact p.elim
  | some s =>
    rw [h] at p
    cases s with
    | sh d => obtain ⟨v, e, r'⟩ := sh_at r h; exact ⟨v, e, p v H r'⟩
    | ow d => obtain ⟨v, e, r'⟩ := ow_at r h; exact ⟨v, e, p v H r'⟩
    | raw v => obtain ⟨e, r'⟩ := raw_at r h; exact ⟨v, e, p v H r'⟩
    | no => exact p.elim
    | io k d => exact p.elim
    | al j => exact p.elim
    | fz o kvs => exact p.elim
    | fr ds => exact p.elim
    | clo c ds => exact p.elim
theorem pv_rd (i : Nat) {x : Str} {pos : Pos} (hN : X.N[i]? = some x := by rfl) (hv : Vis X.env.scope x := by first | exact Or.inl rfl | exact Or.inr (Or.inl rfl) | exact Or.inr (Or.inr rfl)) (hd : (x == ("__debug__" : Str)) = false := by decide)
    (hcd : (x == ("__classdict__" : Str)) = false := by decide) : PE X (.Name x pos) (tV X.K W (rdM i)) := PE.imp (pe_var hN hv hd hcd) fun σ H Q ⟨Γ, δ, γ, r, p⟩ => by
  unfold rdM at p
  cases h : δ[i]? with
  | none => rw [h] at p; exact p.elim
  | some s =>
    rw [h] at p
    cases s with
    | sh d => obtain ⟨v, e, r'⟩ := sh_at r h; exact ⟨v, e, p v H r'⟩
    | ow d => obtain ⟨v, e, r'⟩ := al_at r h rfl; exact ⟨v, e, p v H r'⟩
    | raw v => obtain ⟨e, r'⟩ := raw_at r h; exact ⟨v, e, p v H r'⟩
    | no => exact p.elim
    | io k d => obtain ⟨v, e, r'⟩ := al_at r h rfl; exact ⟨v, e, p v H r'⟩
    | al j => exact p.elim
    | fz o kvs => exact p.elim
    | fr ds => obtain ⟨v, e, r'⟩ := fr_at r h; exact ⟨v, e, p v H r'⟩
    | clo c ds => exact p.elim
/-- a constant -/
def cM (d : PyData) : M Sl := fun δ => .ok (.sh d) δ
theorem pe_const {e : Expr} {v : V} {d : PyData} (h : PE X e (tC v)) (hr : ∀ N H, R X.K N H v d) : PE X e (tV X.K W (cM d)) := PE.imp h fun σ H Q ⟨Γ, δ, γ, r, p⟩ => p v H ⟨r.len, r.rel.push rfl ⟨v, rfl, hr _ _⟩⟩
theorem dint {i j pos} : PE X (.Constant (.int i) j pos) (tV X.K W (cM (.int i))) := pe_const pe_int fun _ _ => .int i
theorem dbl {b j pos} : PE X (.Constant (.bool b) j pos) (tV X.K W (cM (.bool b))) := pe_const pe_bl fun _ _ => .bl b
theorem dnon {j pos} : PE X (.Constant .none j pos) (tV X.K W (cM .none)) := pe_const pe_non fun _ _ => .non
theorem dstr {x j pos} : PE X (.Constant (.str x) j pos) (tV X.K W (cM (.str x))) := pe_const pe_str fun _ _ => .str x
end

/-! ### operations by values -/
/-- an argument's data now -/
def datS (δ : List Sl) : Sl → Option PyData
  | .sh d => some d
  | .ow d => some d
  | .io _ d => some d
  | .al i => match δ[i]? with
    | some (.sh d) => some d
    | some (.ow d) => some d
    | some (.io _ d) => some d
    | _ => none
  | _ => none
def dats (δ : List Sl) : List Sl → Option (List PyData)
  | [] => some []
  | s :: r => match datS δ s, dats δ r with
    | some d, some ds => some (d :: ds)
    | _, _ => none
/-- the data at v; the object itself may be owned -/
inductive Top (K : PySem.W.Frag) (N : Addr → Prop) (H : Hp) : V → PyData → Prop
  | val {v : V} {d : PyData} : R K N H v d → Top K N H v d
  | own {p : Addr} {d : PyData} : Cn K N H p d → Top K N H (.ref p) d
inductive TopA (K : PySem.W.Frag) (N : Addr → Prop) (H : Hp) : List V → List PyData → Prop
  | nil : TopA K N H [] []
  | cons {v : V} {vs : List V} {d : PyData} {ds : List PyData} : Top K N H v d → TopA K N H vs ds → TopA K N H (v :: vs) (d :: ds)
/-- what an operation hands back: a value among the old, or a new object of the asker's own -/
inductive Out where
  | sh (d : PyData)
  | nw (d : PyData)
def Out.sl : Out → Sl
  | .sh d => .sh d
  | .nw d => .ow d
def OutOk (K : PySem.W.Frag) (N : Addr → Prop) (H H' : Hp) (v : V) : Out → Prop
  | .sh d => R K (fun a => N a ∨ H a = none) H' v d
  | .nw d => ∃ p, v = .ref p ∧ H p = none ∧ Cn K (fun a => N a ∧ H a ≠ none) H' p d
def Impl (K : PySem.W.Frag) (r : List V → Hp → VK → Prop) (g : List PyData → Option Out) : Prop :=
  ∀ (N : Addr → Prop) (H : Hp) (vs : List V) (ds : List PyData) (o : Out) (Q : VK), TopA K N H vs ds → g ds = some o → (∀ H' v, Same H H' → OutOk K N H H' v o → Q v H') → r vs H Q
def opM (g : List PyData → Option Out) (rs : List Sl) : M Sl := fun δ => match dats δ rs with
  | some ds => match g ds with
    | some o => .ok o.sl δ
    | none => .no
  | none => .no
section
variable {K : PySem.W.Frag} {W : XW} {Γ : Gm} {σ : L2.St} {δ δ' : List Sl} {γ γ' : List Ent} {H H' : Hp}
theorem RS.top {v : V} {s : Sl} {d : PyData} (r : RS K Γ σ δ γ H) (m : (some v, s) ∈ γ) (h : datS δ s = some d) : Top K (Nn Γ (σ.zip δ ++ γ)) H v d := by
  have q := r.rel.each _ (List.mem_append_right _ m)
  cases s with
  | sh d' => cases h; obtain ⟨v', e, q⟩ := q; cases e; exact .val q
  | ow d' => cases h; obtain ⟨p, e, _, _, c⟩ := q; cases e; exact .own c
  | io k d' => cases h; obtain ⟨p, e, _, c⟩ := q; cases e; exact .own c
  | no => cases h
  | raw x => cases h
  | fz o kvs => cases h
  | fr ds => cases h
  | clo c ds => cases h
  | al i =>
    obtain ⟨v', x, e1, e2⟩ := q
    cases e1
    have hz := List.getElem?_zip_eq_some.mp e2
    have q2 := r.rel.each _ (List.mem_append_left _ (List.mem_of_getElem? e2))
    have h' : (match δ[i]? with
      | some (.sh d) => some d
      | some (.ow d) => some d
      | some (.io _ d) => some d
      | _ => none) = some d := h
    rw [hz.2] at h'
    cases x with
    | sh d' => cases h'; obtain ⟨v', e, q⟩ := q2; cases e; exact .val q
    | ow d' => cases h'; obtain ⟨p, e, _, _, c⟩ := q2; cases e; exact .own c
    | io k d' => cases h'; obtain ⟨p, e, _, c⟩ := q2; cases e; exact .own c
    | no => cases h'
    | raw x => cases h'
    | fz o kvs => cases h'
    | fr ds => cases h'
    | clo c ds => cases h'
    | al i => cases h'
theorem RS.tops : ∀ {vs : List V} {rs : List Sl} {ds : List PyData}, RS K Γ σ δ γ H → (∀ e ∈ (vs.map some).zip rs, e ∈ γ) → vs.length = rs.length → dats δ rs = some ds → TopA K (Nn Γ (σ.zip δ ++ γ)) H vs ds
  | [], [], _, r, m, hl, h => by cases h; exact .nil
  | v :: vs, s :: rs, ds, r, m, hl, h => by
    unfold dats at h
    cases h1 : datS δ s with
    | none => rw [h1] at h; cases h
    | some d =>
      cases h2 : dats δ rs with
      | none => rw [h1, h2] at h; cases h
      | some ds' =>
        rw [h1, h2] at h
        cases h
        exact .cons (r.top (m _ List.mem_cons_self) h1) (RS.tops r (fun e he => m e (List.mem_cons_of_mem _ he)) (Nat.succ.inj hl) h2)
  | [], _ :: _, _, _, _, hl, _ => by cases hl
  | _ :: _, [], _, _, _, hl, _ => by cases hl
/-- the result comes onto the way -/
theorem RS.out {v : V} {o : Out} (r : RS K Γ σ δ γ H) (s : Same H H') (h : OutOk K (Nn Γ (σ.zip δ ++ γ)) H H' v o) : RS K Γ σ δ ((some v, o.sl) :: γ) H' := by
  cases o with
  | sh d =>
    refine ⟨r.len, (r.rel.same s).push rfl ⟨v, rfl, ?_⟩⟩
    refine R.mono (fun a n _ => ?_) (fun _ _ h _ => h) (fun _ _ _ h => h) (show R K (fun a => Nn Γ (σ.zip δ ++ γ) a ∨ H a = none) H' v d from h)
    rcases n with n | n
    · exact n
    · refine ⟨r.rel.fresh a n, fun ⟨e, m, o, q⟩ => ?_⟩
      have z := r.rel.each e m
      obtain ⟨ov, sl⟩ := e
      cases sl with
      | ow d => obtain ⟨p, e1, _, _, c⟩ := z; rw [q] at e1; cases e1; exact c.there n
      | io k d => obtain ⟨p, e1, _, c⟩ := z; rw [q] at e1; cases e1; exact c.there n
      | _ => cases o
  | nw d =>
    obtain ⟨p, rfl, hn, hc⟩ := h
    exact ⟨r.len, r.rel.made s hn hc⟩
theorem run_op {r : List V → Hp → VK → Prop} {g : List PyData → Option Out} (hi : Impl K r g) {vs : List V} {rs : List Sl} {Q : VK} (r0 : RS K Γ σ δ γ H) (hm : ∀ e ∈ (vs.map some).zip rs, e ∈ γ) (hl : vs.length = rs.length)
    (h : Post K W Γ σ γ' (opM g rs δ) fun s δ' => ∀ v H', RS K Γ σ δ' ((some v, s) :: γ) H' → Q v H') : r vs H Q := by
  unfold opM at h
  cases h1 : dats δ rs with
  | none => simp only [h1] at h; exact h.elim
  | some ds =>
    simp only [h1] at h
    cases h2 : g ds with
    | none => simp only [h2] at h; exact h.elim
    | some o =>
      simp only [h2] at h
      exact hi _ H vs ds o Q (r0.tops hm hl h1) h2 fun H' v s ok => h v H' (r0.out s ok)
end

section
variable {X : Cx} {W : XW} {pos : Pos}
theorem drop1 {K : PySem.W.Frag} {Γ : Gm} {σ : L2.St} {δ : List Sl} {γ γ₀ : List Ent} {H : Hp} {e : Ent} (r : RS K Γ σ δ (e :: (γ₀ ++ γ)) H) : RS K Γ σ δ (e :: γ) H := r.sublist ((List.sublist_append_right _ _).cons_cons e)
def mBin (g : List PyData → Option Out) (ma mb : M Sl) : M Sl := ma >>= fun x => mb >>= fun y => opM g [x, y]
theorem seq2 {K : PySem.W.Frag} {ma mb : M Sl} {f : Sl → Sl → M Sl} {σ : L2.St} {H : Hp} {Q : VK} {P : V → V → Hp → Prop} (h : tV K W (ma >>= fun x => mb >>= fun y => f x y) σ H Q)
    (hf : ∀ Γ δ γ v w x y H', RS K Γ σ δ ((some w, y) :: (some v, x) :: γ) H' → Post K W Γ σ γ (f x y δ) (fun r δ' => ∀ v H', RS K Γ σ δ' ((some v, r) :: γ) H' → Q v H') → P v w H') :
    tV K W ma σ H fun v H1 => tV K W mb σ H1 fun w H2 => P v w H2 := by
  obtain ⟨Γ, δ, γ, r, p⟩ := h
  refine ⟨Γ, δ, γ, r, (Post.bind p).imp fun x δ1 p1 v H1 r1 => ⟨Γ, δ1, (some v, x) :: γ, r1, ((Post.bind p1).ext [(some v, x)]).imp fun y δ2 p2 w H2 r2 => ?_⟩⟩
  exact hf Γ δ2 γ v w x y H2 r2 p2
theorem d_bin {op : Operator} {a b : Expr} {r : R2} {g : List PyData → Option Out} {ma mb : M Sl} (ho : OpR X (binaryOp op) r) (hi : Impl X.K (fun vs => match vs with
      | [x, y] => r x y
      | _ => fun _ _ => False) g) (ha : PE X a (tV X.K W ma)) (hb : PE X b (tV X.K W mb)) : PE X (.BinOp a op b pos) (tV X.K W (mBin g ma mb)) :=
  PE.imp (pe_op ho ha hb) fun σ H Q h => seq2 h fun Γ δ γ v w x y H' r p =>
    run_op hi (vs := [v, w]) (rs := [x, y]) (γ' := γ) r (fun e m => by
      rcases List.mem_cons.mp m with rfl | m
      · exact List.mem_cons_of_mem _ List.mem_cons_self
      · rcases List.mem_cons.mp m with rfl | m
        · exact List.mem_cons_self
        · cases m) rfl (p.imp fun s δ' k v' H'' r' => k v' H'' (drop1 (γ₀ := [(some w, y), (some v, x)]) r'))
theorem d_cmp {op : CmpOp} {a b : Expr} {r : R2} {g : List PyData → Option Out} {ma mb : M Sl} (ho : OpR X (compareOp op) r) (hi : Impl X.K (fun vs => match vs with
      | [x, y] => r x y
      | _ => fun _ _ => False) g) (ha : PE X a (tV X.K W ma)) (hb : PE X b (tV X.K W mb)) (hm : behindInMarks op b = false) : PE X (.Compare a [op] [b] pos) (tV X.K W (mBin g ma mb)) :=
  PE.imp (pe_cmpR ho ha hb hm) fun σ H Q h => seq2 h fun Γ δ γ v w x y H' r p =>
    run_op hi (vs := [v, w]) (rs := [x, y]) (γ' := γ) r (fun e m => by
      rcases List.mem_cons.mp m with rfl | m
      · exact List.mem_cons_of_mem _ List.mem_cons_self
      · rcases List.mem_cons.mp m with rfl | m
        · exact List.mem_cons_self
        · cases m) rfl (p.imp fun s δ' k v' H'' r' => k v' H'' (drop1 (γ₀ := [(some w, y), (some v, x)]) r'))
end
end DL

set_option Elab.async false
set_option linter.all false
set_option maxRecDepth 100000
set_option maxHeartbeats 1000000
namespace DL
open PySem PySem.Spec PyProof.Rows L2

section
variable {X : Cx} {W : XW} {pos : Pos}
/-! ### arguments, displays -/
def mNil : M (List Sl) := fun δ => .ok [] δ
def mCons (m : M Sl) (ms : M (List Sl)) : M (List Sl) := m >>= fun x => ms >>= fun xs => fun δ => .ok (x :: xs) δ
theorem d_nil : PA X [] (tAs X.K W mNil) := PA.imp pa_nil fun σ H Q ⟨Γ, δ, γ, r, p⟩ => p [] H rfl r
theorem d_cons {e : Expr} {es : List Expr} {m : M Sl} {ms : M (List Sl)} (ha : PE X e (tV X.K W m)) (hr : PA X es (tAs X.K W ms)) (hs : starEach (e :: es) X.env = (false, eval e X.env) :: starEach es X.env := by rfl) : PA X (e :: es) (tAs X.K W (mCons m ms)) :=
  PA.imp (pa_cons ha hr hs) fun σ H Q ⟨Γ, δ, γ, r, p⟩ => ⟨Γ, δ, γ, r, (Post.bind p).imp fun x δ1 p1 v H1 r1 => ⟨Γ, δ1, (some v, x) :: γ, r1, ((Post.bind p1).ext [(some v, x)]).imp fun xs δ2 p2 vs H2 hl r2 => by
    exact p2 (v :: vs) H2 (congrArg Nat.succ hl) (r2.perm List.perm_middle)⟩⟩
/-- what leaves a name's hands -/
def esc : Sl → Option PyData
  | .sh d => some d
  | .ow d => some d
  | _ => none
def escs : List Sl → Option (List PyData)
  | [] => some []
  | s :: r => match esc s, escs r with
    | some d, some ds => some (d :: ds)
    | _, _ => none
section
variable {K : PySem.W.Frag} {Γ : Gm} {σ : L2.St} {δ δ' : List Sl} {γ γ' : List Ent} {H H' : Hp}
theorem RS.esc {v : V} {s : Sl} {d : PyData} (r : RS K Γ σ δ ((some v, s) :: γ) H) (h : esc s = some d) : RS K Γ σ δ ((some v, .sh d) :: γ) H := by
  cases s with
  | sh d' => cases h; exact r
  | ow d' => cases h; exact r.release
  | _ => cases h
theorem RS.escs : ∀ {vs : List V} {rs : List Sl} {ds : List PyData} {γ : List Ent}, RS K Γ σ δ ((vs.map some).zip rs ++ γ) H → vs.length = rs.length → escs rs = some ds → RA K (Nn Γ (σ.zip δ ++ γ)) H vs ds
  | [], [], ds, γ, r, hl, h => by cases h; exact .nil
  | v :: vs, s :: rs, ds, γ, r, hl, h => by
    unfold DL.escs at h
    cases h1 : DL.esc s with
    | none => simp only [h1] at h; cases h
    | some d =>
      cases h2 : DL.escs rs with
      | none => simp only [h1, h2] at h; cases h
      | some ds' =>
        simp only [h1, h2] at h
        cases h
        have r1 : RS K Γ σ δ ((some v, .sh d) :: ((vs.map some).zip rs ++ γ)) H := RS.esc (s := s) r h1
        have r2 := RS.escs (γ := (some v, .sh d) :: γ) (r1.perm List.perm_middle.symm) (Nat.succ.inj hl) h2
        have r3 : RS K Γ σ δ ((some v, .sh d) :: γ) H := r1.sublist ((List.sublist_append_right _ _).cons_cons _)
        have own : ∀ a, OwnA (σ.zip δ ++ γ) a → OwnA (σ.zip δ ++ (some v, .sh d) :: γ) a := fun a z => z.of_sub fun e m _ => (List.mem_append.mp m).elim (List.mem_append_left _) fun q => List.mem_append_right _ (List.mem_cons_of_mem _ q)
        refine .cons (R.mono (fun a n _ => ⟨n.1, fun z => n.2 (own a z)⟩) (fun _ _ h _ => h) (fun _ _ _ h => h) (r3.get (List.mem_append_right _ List.mem_cons_self))) (RA.mono (fun a n _ => ⟨n.1, fun z => n.2 (own a z)⟩) (fun _ _ h _ => h) (fun _ _ _ h => h) r2)
  | [], _ :: _, _, _, _, hl, _ => by cases hl
  | _ :: _, [], _, _, _, hl, _ => by cases hl
end
def tupM (rs : List Sl) : M Sl := fun δ => match escs rs with
  | some ds => if ds.length ≤ 1000000 then .ok (.sh (.tuple ds)) δ else .no
  | none => .no
def lstM (rs : List Sl) : M Sl := fun δ => match escs rs with
  | some ds => if ds.length ≤ 1000000 then .ok (.ow (.list ds)) δ else .no
  | none => .no
theorem same_upd {H : Hp} {p : Addr} {o : HO} (h : H p = none) : Same H (upd H p o) := fun b x e => by
  rw [upd_ne (ne_of_none e h)]
  exact e
theorem million : (1000000 : Nat) ≤ sizeLine := by rw [sizeLine_eq]; decide
theorem d_tup {es : List Expr} {ms : M (List Sl)} {k : Nat} (h : PA X es (tAs X.K W ms)) : PE X (.Tuple es k pos) (tV X.K W (ms >>= tupM)) :=
  PE.imp (pe_tupX h) fun σ H Q ⟨Γ, δ, γ, r, p⟩ => ⟨Γ, δ, γ, r, (Post.bind p).imp fun rs δ1 p1 vs H1 hl r1 => by
    unfold tupM at p1
    cases h1 : escs rs with
    | none => simp only [h1] at p1; exact p1.elim
    | some ds =>
      simp only [h1] at p1
      have ra := r1.escs hl h1
      have hlen := ra.length
      by_cases hz : ds.length ≤ 1000000
      · rw [if_pos hz] at p1
        refine ⟨by have := million; omega, keyish ds, fun q o hq ho => p1 _ _ ?_⟩
        have s := same_upd (o := tupO (keyish ds) o vs) hq
        exact ⟨r1.len, (r1.popN.rel.same s).push rfl ⟨_, rfl, .newT ho (ra.mono (fun _ n _ => n) (fun _ _ h _ => s _ _ h) fun _ _ _ h => s _ _ h)⟩⟩
      · rw [if_neg hz] at p1; exact p1.elim⟩
theorem d_lst {es : List Expr} {ms : M (List Sl)} (h : PA X es (tAs X.K W ms)) : PE X (.List es pos) (tV X.K W (ms >>= lstM)) :=
  PE.imp (pe_lst h) fun σ H Q ⟨Γ, δ, γ, r, p⟩ => ⟨Γ, δ, γ, r, (Post.bind p).imp fun rs δ1 p1 vs H1 hl r1 => by
    unfold lstM at p1
    cases h1 : escs rs with
    | none => simp only [h1] at p1; exact p1.elim
    | some ds =>
      simp only [h1] at p1
      have ra := r1.escs hl h1
      have hlen := ra.length
      by_cases hz : ds.length ≤ 1000000
      · rw [if_pos hz] at p1
        refine ⟨by have := million; omega, fun q hq => p1 _ _ ?_⟩
        have s := same_upd (o := .lst vs) hq
        exact ⟨r1.len, r1.popN.rel.made s hq ⟨vs, upd_same, ra.mono (fun _ n h => ⟨n, h⟩) (fun _ _ h _ => s _ _ h) fun _ _ _ h => s _ _ h⟩⟩
      · rw [if_neg hz] at p1; exact p1.elim⟩
def dictM : M Sl := fun δ => .ok (.ow (.dict [])) δ
theorem d_dictK : PE X (.Dict [] [] pos) (tV X.K W dictM) :=
  PE.imp pe_dnewK fun σ H Q ⟨Γ, δ, γ, r, p⟩ q hq => p _ _ ⟨r.len, r.rel.made (same_upd hq) hq (.inl ⟨[], upd_same, .nil⟩)⟩
def dictTM : M Sl := fun δ => .ok (.ow (.dict [(.none, .none)])) δ
theorem d_dictT : PE X (.Dict [] [] pos) (tV X.K W dictTM) :=
  PE.imp pe_dnewT fun σ H Q ⟨Γ, δ, γ, r, p⟩ q hq => p _ _ ⟨r.len, r.rel.made (same_upd hq) hq (.inr ⟨[], upd_same, [], rfl, .nil⟩)⟩

/-! ### built-in calls, subscripts, methods by values -/
theorem zip_mem {γ : List Ent} {l : List Ent} : ∀ e ∈ l, e ∈ l ++ γ := fun _ m => List.mem_append_left _ m
def mCall (g : List PyData → Option Out) (ms : M (List Sl)) : M Sl := ms >>= opM g
theorem tAs_op {K : PySem.W.Frag} {r : List V → Hp → VK → Prop} {g : List PyData → Option Out} {ms : M (List Sl)} (hi : Impl K r g) {σ : L2.St} {H : Hp} {Q : VK} (h : tV K W (mCall g ms) σ H Q) : tAs K W ms σ H fun vs H1 => r vs H1 Q := by
  obtain ⟨Γ, δ, γ, r, p⟩ := h
  exact ⟨Γ, δ, γ, r, (Post.bind p).imp fun rs δ1 p1 vs H1 hl r1 => run_op hi (γ' := γ) r1 zip_mem hl (p1.imp fun s δ' k v H' r' => k v H' (drop1 r'))⟩
theorem d_callB {x : Str} {p : Pos} {id : String} {e : Expr} {es : List Expr} {r : List V → Hp → VK → Prop} {g : List PyData → Option Out} {ms : M (List Sl)} (hc : CallR X (.builtin id) r) (hi : Impl X.K r g) (hg : Gl X x) (hm : X.mg x = none) (hv : bootBuiltins x = some (.builtin id))
    (ha : PA X (e :: es) (tAs X.K W ms)) (hn : x ≠ "__name__" := by decide) (hdb : (x == ("__debug__" : Str)) = false := by decide)
    (he : starEach (e :: es) X.env = (false, eval e X.env) :: starEach es X.env := by rfl) (hpl : (backTo pos (starEach es X.env)).any (·.1) = false := by rfl) : PE X (.Call (.Name x p) (e :: es) [] pos) (tV X.K W (mCall g ms)) :=
  PE.imp (pe_callB hc hg hm hv ha hn hdb he hpl) fun σ H Q h => tAs_op hi h
theorem d_callTy {x : Str} {p : Pos} {T : String} {e : Expr} {es : List Expr} {r : List V → Hp → VK → Prop} {g : List PyData → Option Out} {ms : M (List Sl)} (hc : CallR X (.type T) r) (hi : Impl X.K r g) (hg : Gl X x) (hm : X.mg x = none) (hv : bootBuiltins x = some (.type T))
    (ha : PA X (e :: es) (tAs X.K W ms)) (hn : x ≠ "__name__" := by decide) (hdb : (x == ("__debug__" : Str)) = false := by decide)
    (he : starEach (e :: es) X.env = (false, eval e X.env) :: starEach es X.env := by rfl) (hpl : (backTo pos (starEach es X.env)).any (·.1) = false := by rfl) : PE X (.Call (.Name x p) (e :: es) [] pos) (tV X.K W (mCall g ms)) :=
  PE.imp (pe_callTy hc hg hm hv ha hn hdb he hpl) fun σ H Q h => tAs_op hi h
theorem d_ix {a b : Expr} {r : R2} {g : List PyData → Option Out} {ma mb : M Sl} (ho : IxR X r) (hi : Impl X.K (fun vs => match vs with
      | [x, y] => r x y
      | _ => fun _ _ => False) g) (ha : PE X a (tV X.K W ma)) (hb : PE X b (tV X.K W mb)) (hs : PlainIx b) : PE X (.Subscript a b pos) (tV X.K W (mBin g ma mb)) :=
  PE.imp (pe_ix ho ha hb hs) fun σ H Q h => seq2 h fun Γ δ γ v w x y H' r p =>
    run_op hi (vs := [v, w]) (rs := [x, y]) (γ' := γ) r (fun e m => by
      rcases List.mem_cons.mp m with rfl | m
      · exact List.mem_cons_of_mem _ List.mem_cons_self
      · rcases List.mem_cons.mp m with rfl | m
        · exact List.mem_cons_self
        · cases m) rfl (p.imp fun s δ' k v' H'' r' => k v' H'' (drop1 (γ₀ := [(some w, y), (some v, x)]) r'))
def mUn (g : List PyData → Option Out) (ma : M Sl) : M Sl := ma >>= fun x => opM g [x]
theorem d_un {op : UnaryOp} {a : Expr} {r : V → Hp → VK → Prop} {g : List PyData → Option Out} {ma : M Sl} (ho : UnR X (unaryOp op) r) (hi : Impl X.K (fun vs => match vs with
      | [x] => r x
      | _ => fun _ _ => False) g) (ha : PE X a (tV X.K W ma)) : PE X (.UnaryOp op a pos) (tV X.K W (mUn g ma)) :=
  PE.imp (pe_un ho ha) fun σ H Q ⟨Γ, δ, γ, r, p⟩ => ⟨Γ, δ, γ, r, (Post.bind p).imp fun x δ1 p1 v H1 r1 =>
    run_op hi (vs := [v]) (rs := [x]) (γ' := γ) r1 (fun e m => by
      rcases List.mem_cons.mp m with rfl | m
      · exact List.mem_cons_self
      · cases m) rfl (p1.imp fun s δ' k v' H'' r' => k v' H'' (drop1 (γ₀ := [(some v, x)]) r'))⟩
/-- a method that reads -/
def tyD (T : String) : PyData → Bool
  | .str _ => T == "str"
  | .int _ => T == "int"
  | .list _ => T == "list"
  | _ => false
def chkT (T : String) (x : Sl) : M Unit := fun δ => match datS δ x with
  | some d => if tyD T d = true then .ok () δ else .no
  | none => .no
def mMeth (T : String) (g : List PyData → Option Out) (mo : M Sl) (ms : M (List Sl)) : M Sl := mo >>= fun x => chkT T x >>= fun _ => ms >>= fun rs => opM g (x :: rs)
theorem ty_ok {K : PySem.W.Frag} {N : Addr → Prop} {H : Hp} {T : String} {v : V} {d : PyData} (h : Top K N H v d) (ht : tyD T d = true) : tyV K T v H := by
  cases h with
  | val r =>
    cases r with
    | str x => exact eq_of_beq ht
    | int i => exact eq_of_beq ht
    | lst n q _ => exact .inl ⟨eq_of_beq ht, _, .inl q⟩
    | lstK q _ => exact .inl ⟨eq_of_beq ht, _, LL.sq (H := H) (.inr q)⟩
    | _ => cases ht
  | own c =>
    cases d with
    | list ds => obtain ⟨xs, e, _⟩ := c; exact .inl ⟨eq_of_beq ht, xs, SqL.of e⟩
    | dict ds => cases ht
    | _ => exact c.elim
theorem chk_ok {K : PySem.W.Frag} {T : String} {x : Sl} {Γ : Gm} {σ : L2.St} {δ : List Sl} {γ γ' : List Ent} {k : Unit → List Sl → Prop} {H : Hp} {v : V} (r : RS K Γ σ δ γ H) (m : (some v, x) ∈ γ) (h : Post K W Γ σ γ' (chkT T x δ) k) : tyV K T v H ∧ k () δ := by
  unfold chkT at h
  cases h1 : datS δ x with
  | none => simp only [h1] at h; exact h.elim
  | some d =>
    simp only [h1] at h
    by_cases h2 : tyD T d = true
    · rw [if_pos h2] at h; exact ⟨ty_ok (r.top m h1) h2, h⟩
    · rw [if_neg h2] at h; exact h.elim
theorem d_meth {o e : Expr} {es : List Expr} {mo : M Sl} {ms : M (List Sl)} {g : List PyData → Option Out} {name : Str} {apos cpos : Pos} {T id : String} {r : V → List V → Hp → VK → Prop} (pa : PlainAttrs T) (slot : Slot T name id) (hty : typeOf (.builtin id) = pure (.type "method_descriptor")) (hm : MtR X id r)
    (hi : Impl X.K (fun vs => match vs with
      | x :: xs => r x xs
      | _ => fun _ _ => False) g) (ho : PE X o (tV X.K W mo)) (ha : PA X (e :: es) (tAs X.K W ms))
    (hbase : attributeBase o name X.env (eval o X.env) = eval o X.env := by rfl)
    (hfew : ((backTo cpos (starEach (e :: es) X.env)).all (fun x => !x.1) && (backToKw cpos (keywordEach [] X.env)).all (fun x => x.1.isSome)
      && decide ((e :: es).length + ([] : List Keyword).length + (if ([] : List Keyword).isEmpty then 0 else 1) < 30)) = true := by rfl)
    (hline : (apos.endLine == cpos.line) = true := by rfl) (hs : starEach (e :: es) X.env = (false, eval e X.env) :: starEach es X.env := by rfl) (hplain : (backTo cpos (starEach es X.env)).any (·.1) = false := by rfl) :
    PE X (.Call (.Attribute o name apos) (e :: es) [] cpos) (tV X.K W (mMeth T g mo ms)) :=
  PE.imp (pe_bm pa slot hty hm ho ha hbase hfew hline hs hplain) fun σ H Q ⟨Γ, δ, γ, r0, p⟩ => ⟨Γ, δ, γ, r0, (Post.bind p).imp fun x δ1 p1 v H1 r1 => by
    obtain ⟨ty, p2⟩ := chk_ok r1 List.mem_cons_self (Post.bind p1)
    refine ⟨ty, Γ, δ1, (some v, x) :: γ, r1, ((Post.bind p2).ext [(some v, x)]).imp fun rs δ2 p3 vs H2 hl r2 => ?_⟩
    have r3 : RS X.K Γ σ δ2 (((v :: vs).map some).zip (x :: rs) ++ γ) H2 := r2.perm List.perm_middle
    exact run_op hi (vs := v :: vs) (rs := x :: rs) (γ' := γ) r3 zip_mem (congrArg Nat.succ hl) (p3.imp fun s δ' k v' H' r' => k v' H' (drop1 r'))⟩
theorem d_meth0 {o : Expr} {mo : M Sl} {g : List PyData → Option Out} {name : Str} {apos cpos : Pos} {T id : String} {r : V → List V → Hp → VK → Prop} (pa : PlainAttrs T) (slot : Slot T name id) (hty : typeOf (.builtin id) = pure (.type "method_descriptor")) (hm : MtR X id r)
    (hi : Impl X.K (fun vs => match vs with
      | x :: xs => r x xs
      | _ => fun _ _ => False) g) (ho : PE X o (tV X.K W mo))
    (hbase : attributeBase o name X.env (eval o X.env) = eval o X.env := by rfl) (hline : (apos.endLine == cpos.line) = true := by rfl) : PE X (.Call (.Attribute o name apos) [] [] cpos) (tV X.K W (mMeth T g mo mNil)) :=
  PE.imp (pe_bm0 pa slot hty hm ho hbase hline) fun σ H Q ⟨Γ, δ, γ, r0, p⟩ => ⟨Γ, δ, γ, r0, (Post.bind p).imp fun x δ1 p1 v H1 r1 => by
    obtain ⟨ty, p2⟩ := chk_ok r1 List.mem_cons_self (Post.bind p1)
    exact ⟨ty, run_op hi (vs := [v]) (rs := [x]) (γ' := γ) (γ := (some v, x) :: γ) r1 (fun e m => by
      rcases List.mem_cons.mp m with rfl | m
      · exact List.mem_cons_self
      · cases m) rfl ((show Post X.K W Γ σ γ (opM g [x] δ1) _ from p2).imp fun s δ' k v' H' r' => k v' H' (drop1 (γ₀ := [(some v, x)]) r'))⟩⟩
end

/-! ### defs -/
inductive FRes where
  | ok (r : Sl) (out : Option PyData)
  | er (e : Ex)
  | no
def ResOk (K : PySem.W.Frag) (B : Addr → Prop) (H H' : Hp) (v : V) : Sl → Prop
  | .sh d => R K B H' v d
  | .ow d => ∃ p, v = .ref p ∧ H p = none ∧ Cn K (fun a => B a ∧ a ≠ p) H' p d
  | .raw x => v = x
  | _ => False
/-- all but p and tables is kept -/
structure SameI (K : PySem.W.Frag) (p : Addr) (H H' : Hp) : Prop where
  ext : ∀ a u, a ≠ p → nt K a → H a = some u → H' a = some u
  free : ∀ b, H' b = none → H b = none
  tb : Tb K H'
/-- a def that changes nothing of what is handed in -/
def spP (K : PySem.W.Frag) (cl : Str → Value) (F : List PyData → FRes) : Sp := fun vs H Q E => ∃ (B : Addr → Prop) (ds : List PyData), ((∀ p, H p = none → B p) ∧ (∀ a, B a → nt K a) ∧ Tb K H) ∧ RA K B H vs ds ∧
  match F ds with
  | .ok r none => ∀ v H', SameD K H H' → ResOk K B H H' v r → Q v H'
  | .er e => e.val = none ∧ ∀ H', SameD K H H' → E (cl e.cls) none H'
  | _ => False
/-- a def that changes its first argument -/
def spI (K : PySem.W.Frag) (cl : Str → Value) (F : PyData → List PyData → FRes) : Sp := fun vs H Q E => ∃ (B : Addr → Prop) (p : Addr) (vs' : List V) (d0 : PyData) (ds : List PyData), vs = .ref p :: vs' ∧ ((∀ p, H p = none → B p) ∧ (∀ a, B a → nt K a) ∧ Tb K H) ∧ ¬ B p ∧ Cn K B H p d0 ∧ RA K B H vs' ds ∧
  match F d0 ds with
  | .ok r (some d1) => ∀ v H', SameI K p H H' → Cn K (fun a => B a ∧ (r.own = true → v ≠ .ref a)) H' p d1 → ResOk K B H H' v r → Q v H'
  | _ => False
/-- what a call may let out, by what is wished here -/
def EW (cl : Str → Value) (W : XW) : L2.St → XK := fun σ c d H => ∃ e : Ex, e.val = none ∧ c = cl e.cls ∧ d = none ∧ W e σ H
def callP (F : List PyData → FRes) (rs : List Sl) : M Sl := fun δ => match escs rs with
  | some ds => match F ds with
    | .ok r none => .ok r δ
    | .er e => if e.val.isNone = true then .er e δ else .no
    | _ => .no
  | none => .no
def Sl.setD : Sl → PyData → Sl
  | .ow _, d => .ow d
  | .io k _, d => .io k d
  | s, _ => s
def Sl.dat : Sl → PyData
  | .ow d => d
  | .io _ d => d
  | _ => .none
def callI (F : PyData → List PyData → FRes) (rs : List Sl) : M Sl := fun δ => match rs with
  | .al i :: rs' => match δ[i]?, escs rs' with
    | some s, some ds => if s.own = true then match F s.dat ds with
      | .ok r (some d1) => .ok r (δ.set i (s.setD d1))
      | _ => .no
      else .no
    | _, _ => .no
  | _ => .no
section
variable {K : PySem.W.Frag} {Γ : Gm} {σ : L2.St} {δ δ' : List Sl} {γ γ' : List Ent} {H H' : Hp}
theorem Rel.unal {S : List Ent} (r : Rel K Γ S γ H) : ∀ p, H p = none → Nn Γ (S ++ γ) p := fun p hp => ⟨r.fresh p hp, fun ⟨e, m, o, q⟩ => by
  have z := r.each e m
  obtain ⟨ov, sl⟩ := e
  cases sl with
  | ow d => obtain ⟨p', e1, _, _, c⟩ := z; rw [q] at e1; cases e1; exact c.there hp
  | io k d => obtain ⟨p', e1, _, c⟩ := z; rw [q] at e1; cases e1; exact c.there hp
  | _ => cases o⟩
theorem R.ne {N : Addr → Prop} {v : V} {d : PyData} (h : R K N H v d) : R K (fun a => N a ∧ H a ≠ none) H v d := h.mono (fun _ n q => ⟨n, q⟩) (fun _ _ h _ => h) fun _ _ _ h => h
/-- .. with the new object's elements elsewhere -/
theorem Rel.made' {S : List Ent} (r : Rel K Γ S γ H) (sD : SameD K H H') {p : Addr} {d : PyData} (hn : H p = none) (hc : Cn K (fun a => Nn Γ (S ++ γ) a ∧ a ≠ p) H' p d) : Rel K Γ S ((some (.ref p), .ow d) :: γ) H' := by
  have ent : ∀ x ∈ S ++ γ, EntOk K Γ S (fun a => Nn Γ (S ++ γ) a ∧ a ≠ p) H' x := fun x m => (r.entD sD x m).mono (fun a n _ => ⟨n.1, fun z => n.2 (z ▸ hn)⟩) (fun _ _ h _ => h) (fun _ _ _ h => h) (fun _ _ _ _ h => h) fun _ _ x _ h => ⟨x, h⟩
  have base := r.made (p := p) (d := .list []) (same_upd (o := .lst []) hn) hn ⟨[], upd_same, .nil⟩
  have own : ∀ a, OwnA (S ++ (some (.ref p), .ow d) :: γ) a → OwnA (S ++ γ) a ∨ a = p := fun a ⟨y, hy, oy, ey⟩ => by
    rcases List.mem_append.mp hy with hy | hy
    · exact .inl ⟨y, List.mem_append_left _ hy, oy, ey⟩
    · rcases List.mem_cons.mp hy with rfl | hy
      · cases ey; exact .inr rfl
      · exact .inl ⟨y, List.mem_append_right _ hy, oy, ey⟩
  have nn : ∀ a, (Nn Γ (S ++ γ) a ∧ a ≠ p) → Nn Γ (S ++ (some (.ref p), .ow d) :: γ) a := fun a n => ⟨n.1.1, fun z => by
    rcases own a z with z | rfl
    · exact n.1.2 z
    · exact n.2 rfl⟩
  refine ⟨fun p h => r.fresh p (sD.free _ h), fun a u h n t => sD.ext _ _ t (r.keep a u h n t), fun a z => r.kfr a (sD.free _ z), r.nb, sD.tb, fun a m z => r.kio a m (sD.free _ z), fun x m => ?_, ?_⟩
  · have old : ∀ x ∈ S ++ γ, EntOk K Γ S (Nn Γ (S ++ (some (.ref p), .ow d) :: γ)) H' x := fun x m => (ent x m).mono (fun a n _ => nn a n) (fun _ _ h _ => h) (fun _ _ _ h => h) (fun _ _ _ _ h => h) fun _ _ x _ h => ⟨x, h⟩
    rcases List.mem_append.mp m with m | m
    · exact old x (List.mem_append_left _ m)
    · rcases List.mem_cons.mp m with rfl | m
      · obtain ⟨p', e1, e2, e3, _⟩ := base.each _ (List.mem_append_right S (List.mem_cons_self (a := (some (V.ref p), Sl.ow (.list []))) (l := γ)))
        cases e1
        exact ⟨p, rfl, e2, e3, hc.mono (fun a n _ => nn a n) (fun _ _ h _ => h) (fun _ _ _ h => h) fun _ h => h⟩
      · exact old x (List.mem_append_right _ m)
  · have h1 := base.dist
    rw [List.pairwise_append, List.pairwise_cons] at h1 ⊢
    obtain ⟨a, ⟨b1, b2⟩, c⟩ := h1
    refine ⟨a, ⟨fun y hy o1 o2 => b1 y hy rfl o2, b2⟩, fun x hx y hy => ?_⟩
    rcases List.mem_cons.mp hy with rfl | hy
    · exact fun o1 _ a e1 e2 => c x hx (some (V.ref p), Sl.ow (.list [])) List.mem_cons_self o1 rfl a e1 e2
    · exact c x hx y (List.mem_cons_of_mem _ hy)
theorem RS.res {v : V} {s : Sl} (r : RS K Γ σ δ γ H) (sm : SameD K H H') (h : ResOk K (Nn Γ (σ.zip δ ++ γ)) H H' v s) : RS K Γ σ δ ((some v, s) :: γ) H' := by
  cases s with
  | sh d => exact ⟨r.len, (r.rel.sameD sm).push rfl ⟨v, rfl, h⟩⟩
  | ow d => obtain ⟨p, rfl, hn, hc⟩ := h; exact ⟨r.len, r.rel.made' sm hn hc⟩
  | raw x => exact ⟨r.len, (r.rel.sameD sm).push rfl (by cases h; rfl)⟩
  | _ => exact h.elim
end
section
variable {X : Cx} {W : XW} {pos : Pos}
theorem d_callP {x : Str} {p : Pos} {f : Addr} {fd : FuncData} {k : Nat} {ps : List Str} {cl : Str → Value} {F : List PyData → FRes} {e : Expr} {es : List Expr} {ms : M (List Sl)} (G : FnOk X.prog X.w X.K X.mg X.base (L2.CX X.prog X.w) k f fd ps (spP X.K cl F)) (hr : Room k X.A) (hg : Gl X x) (hm : X.mg x = some (.ref f)) (hk : PySem.W.keepIn X.K (.ref f) = true)
    (hb : Binds X.K fd ps []) (hx : ∀ σ, PassesAt (L2.CX X.prog X.w) X σ (EW cl W σ)) (ha : PA X (e :: es) (tAs X.K W ms))
    (hdb : (x == ("__debug__" : Str)) = false := by decide) (he : starEach (e :: es) X.env = (false, eval e X.env) :: starEach es X.env := by rfl) (hpl : (backTo pos (starEach es X.env)).any (·.1) = false := by rfl) :
    PE X (.Call (.Name x p) (e :: es) [] pos) (tV X.K W (ms >>= callP F)) :=
  PE.imp (pe_callSD G hr hg hm hk hb .nil hx ha hdb he hpl) fun σ H Q ⟨Γ, δ, γ, r, p⟩ => ⟨Γ, δ, γ, r, (Post.bind p).imp fun rs δ1 p1 vs H1 hl r1 => by
    unfold callP at p1
    cases h1 : escs rs with
    | none => simp only [h1] at p1; exact p1.elim
    | some ds =>
      simp only [h1] at p1
      have ra := r1.escs hl h1
      have rp := r1.popN
      rw [List.append_nil]
      refine ⟨_, ds, ⟨rp.rel.unal, fun a n => rp.rel.nb a n.1, rp.rel.tb⟩, ra, ?_⟩
      cases h2 : F ds with
      | ok rr out =>
        cases out with
        | none =>
          simp only [h2] at p1
          exact fun v H' sm ok => p1 v H' (rp.res sm ok)
        | some o => simp only [h2] at p1; exact p1.elim
      | er ex =>
        simp only [h2] at p1
        by_cases hv : ex.val.isNone = true
        · rw [if_pos hv] at p1
          have hv2 : ex.val = none := Option.isNone_iff_eq_none.mp hv
          exact ⟨hv2, fun H' sm => ⟨ex, hv2, rfl, rfl, p1 H' (rp.sameD sm)⟩⟩
        · rw [if_neg hv] at p1; exact p1.elim
      | no => simp only [h2] at p1; exact p1.elim⟩
end
end DL

set_option Elab.async false
set_option linter.all false
set_option maxRecDepth 100000
set_option maxHeartbeats 1000000
namespace DL
open PySem PySem.Spec PyProof.Rows L2

section
variable {K : PySem.W.Frag} {Γ : Gm} {σ : L2.St} {δ δ' : List Sl} {γ γ' : List Ent} {H H' : Hp}
/-- the callee has changed the owned object p alone -/
theorem Rel.changed {S : List Ent} {p : Addr} {s s' : Sl} {d' : PyData} (r : Rel K Γ S ((some (.ref p), s) :: γ) H) (ho : s.own = true) (hs : s' = s.setD d') (k : SameI K p H H')
    (hc : Cn K (Nn Γ (S ++ (some (.ref p), s) :: γ)) H' p d') : Rel K Γ S ((some (.ref p), s') :: γ) H' := by
  have hs2 : (∃ d, s = .ow d ∧ s' = .ow d') ∨ ∃ k d, s = .io k d ∧ s' = .io k d' := by
    cases s with
    | ow d => exact .inl ⟨d, rfl, hs⟩
    | io k d => exact .inr ⟨k, d, rfl, hs⟩
    | _ => cases ho
  have hm : H p ≠ none := by
    have q := r.each _ (List.mem_append_right S (List.mem_cons_self (a := (some (V.ref p), s)) (l := γ)))
    rcases hs2 with ⟨d, rfl, _⟩ | ⟨k, d, rfl, _⟩
    · obtain ⟨p', e1, _, _, c⟩ := q; cases e1; exact c.there
    · obtain ⟨p', e1, _, c⟩ := q; cases e1; exact c.there
  have ho' : s'.own = true := by rcases hs2 with ⟨d, _, rfl⟩ | ⟨k, d, _, rfl⟩ <;> rfl
  have ownp : OwnA (S ++ (some (.ref p), s) :: γ) p := ⟨_, List.mem_append_right _ List.mem_cons_self, ho, rfl⟩
  have own : ∀ a, OwnA (S ++ (some (.ref p), s') :: γ) a → OwnA (S ++ (some (.ref p), s) :: γ) a := fun a ⟨y, hy, oy, ey⟩ => by
    rcases List.mem_append.mp hy with hy | hy
    · exact ⟨y, List.mem_append_left _ hy, oy, ey⟩
    · rcases List.mem_cons.mp hy with rfl | hy
      · exact ⟨_, List.mem_append_right _ List.mem_cons_self, ho, ey⟩
      · exact ⟨y, List.mem_append_right _ (List.mem_cons_of_mem _ hy), oy, ey⟩
  have hn : ∀ x ∈ S ++ γ, x.2.own = true → x.1 ≠ some (.ref p) := fun x m o z => by
    have h1 := r.dist
    rw [List.pairwise_append, List.pairwise_cons] at h1
    obtain ⟨_, ⟨b, _⟩, c⟩ := h1
    rcases List.mem_append.mp m with m | m
    · exact c x m _ List.mem_cons_self o ho p z rfl
    · exact b x m ho o p rfl z
  have nN : ∀ a, Nn Γ (S ++ (some (.ref p), s) :: γ) a → a ≠ p := fun a n z => n.2 (z ▸ ownp)
  have hmut : MutD (H p) := by
    have q := r.each _ (List.mem_append_right S (List.mem_cons_self (a := (some (V.ref p), s)) (l := γ)))
    rcases hs2 with ⟨d, rfl, _⟩ | ⟨k, d, rfl, _⟩
    · obtain ⟨p', e1, _, _, c⟩ := q; cases e1; exact c.mutD
    · obtain ⟨p', e1, _, c⟩ := q; cases e1; exact c.mutD
  have old : ∀ x ∈ S ++ γ, EntOk K Γ S (Nn Γ (S ++ (some (.ref p), s') :: γ)) H' x := fun x m => by
    have m' : x ∈ S ++ (some (.ref p), s) :: γ := (List.mem_append.mp m).elim (List.mem_append_left _) fun z => List.mem_append_right _ (List.mem_cons_of_mem _ z)
    refine (r.each x m').mono (fun a n _ => ⟨n.1, fun z => n.2 (own a z)⟩) (fun a u h nm => ?_) (fun a u n h => ?_) (fun ox q e1 u h => ?_) fun _ _ x _ h => ⟨x, h⟩
    · exact k.ext a u (fun z => nm (by rw [z] at h; rw [← h]; exact hmut)) (r.tb.ntD h nm) h
    · exact k.ext a u (nN a n) (r.nb _ n.1) h
    · exact k.ext q u (fun z => hn x m ox (by rw [e1, z])) (r.ntO m' ox e1) h
  refine ⟨fun q h => r.fresh q (k.free q h), fun a u h n t => ?_, fun a z => r.kfr a (k.free a z), r.nb, k.tb, fun a m z => r.kio a m (k.free a z), fun x m => ?_, ?_⟩
  · have h1 := r.keep a u h n t
    refine k.ext a u ?_ t h1
    intro z
    subst z
    have q := r.each _ (List.mem_append_right S (List.mem_cons_self (a := (some (V.ref a), s)) (l := γ)))
    rcases hs2 with ⟨d, rfl, _⟩ | ⟨k, d, rfl, _⟩
    · obtain ⟨p', e1, e2, _⟩ := q; cases e1; rw [h] at e2; cases e2
    · obtain ⟨p', e1, e2, c⟩ := q; cases e1; exact n (List.mem_of_getElem? e2)
  · rcases List.mem_append.mp m with m | m
    · exact old x (List.mem_append_left _ m)
    · rcases List.mem_cons.mp m with rfl | m
      · have q := r.each _ (List.mem_append_right S (List.mem_cons_self (a := (some (V.ref p), s)) (l := γ)))
        have hc' := hc.mono (N' := Nn Γ (S ++ (some (V.ref p), s') :: γ)) (fun a n _ => ⟨n.1, fun z => n.2 (own a z)⟩) (fun _ _ h _ => h) (fun _ _ _ h => h) fun _ h => h
        rcases hs2 with ⟨d, rfl, rfl⟩ | ⟨k, d, rfl, rfl⟩
        · obtain ⟨p', e1, e2, e3, c⟩ := q
          cases e1
          exact ⟨p, rfl, e2, e3, hc'⟩
        · obtain ⟨p', e1, e2, c⟩ := q
          cases e1
          exact ⟨p, rfl, e2, hc'⟩
      · exact old x (List.mem_append_right _ m)
  · have h1 := r.dist
    rw [List.pairwise_append, List.pairwise_cons] at h1 ⊢
    obtain ⟨a, ⟨b1, b2⟩, c⟩ := h1
    refine ⟨a, ⟨fun y hy _ o => b1 y hy ho o, b2⟩, fun x hx y hy => ?_⟩
    rcases List.mem_cons.mp hy with rfl | hy
    · exact fun o _ a e1 e2 => c x hx (some (V.ref p), s) List.mem_cons_self o ho a e1 e2
    · exact c x hx y (List.mem_cons_of_mem _ hy)
/-- .. where np is new since -/
theorem Rel.avoid {S : List Ent} {p np : Addr} {s s' : Sl} {d' : PyData} (r : Rel K Γ S ((some (.ref p), s) :: γ) H) (ho : s.own = true) (hs : s' = s.setD d') (k : SameI K p H H') (hn : H np = none) (hn' : H' np ≠ none)
    (hc : Cn K (fun a => Nn Γ (S ++ (some (.ref p), s) :: γ) a ∧ a ≠ np) H' p d') : Rel K { Γ with B := fun a => Γ.B a ∧ a ≠ np } S ((some (.ref p), s') :: γ) H' := by
  have r6 := r.changed ho hs k (hc.mono (fun a n _ => n.1) (fun _ _ h _ => h) (fun _ _ _ h => h) fun _ h => h)
  have hs2 : (∃ d, s = .ow d ∧ s' = .ow d') ∨ ∃ k d, s = .io k d ∧ s' = .io k d' := by
    cases s with
    | ow d => exact .inl ⟨d, rfl, hs⟩
    | io k d => exact .inr ⟨k, d, rfl, hs⟩
    | _ => cases ho
  have own : ∀ a, OwnA (S ++ (some (.ref p), s') :: γ) a → OwnA (S ++ (some (.ref p), s) :: γ) a := fun a ⟨y, hy, oy, ey⟩ => by
    rcases List.mem_append.mp hy with hy | hy
    · exact ⟨y, List.mem_append_left _ hy, oy, ey⟩
    · rcases List.mem_cons.mp hy with rfl | hy
      · exact ⟨_, List.mem_append_right _ List.mem_cons_self, ho, ey⟩
      · exact ⟨y, List.mem_append_right _ (List.mem_cons_of_mem _ hy), oy, ey⟩
  have ownp : OwnA (S ++ (some (.ref p), s) :: γ) p := ⟨_, List.mem_append_right _ List.mem_cons_self, ho, rfl⟩
  have nN : ∀ a, Nn Γ (S ++ (some (.ref p), s) :: γ) a → a ≠ p := fun a n z => n.2 (z ▸ ownp)
  have hmut : MutD (H p) := by
    have q := r.each _ (List.mem_append_right S (List.mem_cons_self (a := (some (V.ref p), s)) (l := γ)))
    rcases hs2 with ⟨d, rfl, _⟩ | ⟨k, d, rfl, _⟩
    · obtain ⟨p', e1, _, _, c⟩ := q; cases e1; exact c.mutD
    · obtain ⟨p', e1, _, c⟩ := q; cases e1; exact c.mutD
  have hdist : ∀ x ∈ S ++ γ, x.2.own = true → x.1 ≠ some (.ref p) := fun x m o z => by
    have h1 := r.dist
    rw [List.pairwise_append, List.pairwise_cons] at h1
    obtain ⟨_, ⟨b, _⟩, c⟩ := h1
    rcases List.mem_append.mp m with m | m
    · exact c x m _ List.mem_cons_self o ho p z rfl
    · exact b x m ho o p rfl z
  have old : ∀ x ∈ S ++ γ, EntOk K { Γ with B := fun a => Γ.B a ∧ a ≠ np } S (Nn { Γ with B := fun a => Γ.B a ∧ a ≠ np } (S ++ (some (.ref p), s') :: γ)) H' x := fun x m => by
    have m' : x ∈ S ++ (some (.ref p), s) :: γ := (List.mem_append.mp m).elim (List.mem_append_left _) fun z => List.mem_append_right _ (List.mem_cons_of_mem _ z)
    have q := (r.each x m').mono (S' := S) (N' := Nn { Γ with B := fun a => Γ.B a ∧ a ≠ np } (S ++ (some (.ref p), s') :: γ)) (H' := H') (fun a n h => ⟨⟨n.1, fun z => h (by rw [z]; exact hn)⟩, fun z => n.2 (own a z)⟩) (fun a u h nm => k.ext a u (fun z => nm (by rw [z] at h; rw [← h]; exact hmut)) (r.tb.ntD h nm) h) (fun a u n h => k.ext a u (nN a n) (r.nb _ n.1) h)
      (fun ox q e1 u h => k.ext q u (fun z => hdist x m ox (by rw [e1, z])) (r.ntO m' ox e1) h) fun _ _ x _ h => ⟨x, h⟩
    have here := r.each x m'
    obtain ⟨ov, sl⟩ := x
    cases sl with
    | ow d =>
      obtain ⟨p1, e1, e2, e3, c⟩ := q
      obtain ⟨p2, e4, _, _, c2⟩ := here
      rw [e1] at e4
      cases e4
      exact ⟨p1, e1, e2, ⟨e3, fun z => c2.there (by rw [z]; exact hn)⟩, c⟩
    | no => exact q
    | sh d => exact q
    | io k d => exact q
    | al i => exact q
    | raw v => exact q
    | fz o kvs => exact q
    | fr ds => exact q
    | clo c ds => exact q
  refine ⟨fun q h => ⟨r6.fresh q h, fun z => hn' (z ▸ h)⟩, r6.keep, r6.kfr, fun a n => r6.nb a n.1, r6.tb, r6.kio, fun x m => ?_, r6.dist⟩
  rcases List.mem_append.mp m with m | m
  · exact old x (List.mem_append_left _ m)
  · rcases List.mem_cons.mp m with rfl | m
    · have q := r.each _ (List.mem_append_right S (List.mem_cons_self (a := (some (V.ref p), s)) (l := γ)))
      have hc' := hc.mono (N' := Nn { Γ with B := fun a => Γ.B a ∧ a ≠ np } (S ++ (some (V.ref p), s') :: γ)) (fun a n _ => ⟨⟨n.1.1, n.2⟩, fun z => n.1.2 (own a z)⟩) (fun _ _ h _ => h) (fun _ _ _ h => h) fun _ h => h
      rcases hs2 with ⟨d, rfl, rfl⟩ | ⟨k, d, rfl, rfl⟩
      · obtain ⟨p', e1, e2, e3, c⟩ := q
        cases e1
        exact ⟨p, rfl, e2, ⟨e3, fun z => c.there (by rw [z]; exact hn)⟩, hc'⟩
      · obtain ⟨p', e1, e2, c⟩ := q
        cases e1
        exact ⟨p, rfl, e2, hc'⟩
    · exact old x (List.mem_append_right _ m)
/-- the new object is taken on -/
theorem Rel.adopt {S : List Ent} {np : Addr} {d : PyData} (r : Rel K { Γ with B := fun a => Γ.B a ∧ a ≠ np } S γ H) (nB : ∀ a, Γ.B a → nt K a) (hB : Γ.B np) (h0 : Γ.H0 np = none) (hno : ∀ x ∈ S ++ γ, x.2.own = true → x.1 ≠ some (.ref np))
    (hc : Cn K (Nn { Γ with B := fun a => Γ.B a ∧ a ≠ np } (S ++ γ)) H np d) : Rel K Γ S ((some (.ref np), .ow d) :: γ) H := by
  have own : ∀ a, OwnA (S ++ (some (.ref np), .ow d) :: γ) a → OwnA (S ++ γ) a ∨ a = np := fun a ⟨y, hy, oy, ey⟩ => by
    rcases List.mem_append.mp hy with hy | hy
    · exact .inl ⟨y, List.mem_append_left _ hy, oy, ey⟩
    · rcases List.mem_cons.mp hy with rfl | hy
      · cases ey; exact .inr rfl
      · exact .inl ⟨y, List.mem_append_right _ hy, oy, ey⟩
  have nn : ∀ a, Nn { Γ with B := fun a => Γ.B a ∧ a ≠ np } (S ++ γ) a → Nn Γ (S ++ (some (.ref np), .ow d) :: γ) a := fun a n => ⟨n.1.1, fun z => by
    rcases own a z with z | rfl
    · exact n.2 z
    · exact n.1.2 rfl⟩
  have old : ∀ x ∈ S ++ γ, EntOk K Γ S (Nn Γ (S ++ (some (.ref np), .ow d) :: γ)) H x := fun x m => by
    have q := (r.each x m).mono (S' := S) (N' := Nn Γ (S ++ (some (.ref np), .ow d) :: γ)) (H' := H) (fun a n _ => nn a n) (fun _ _ h _ => h) (fun _ _ _ h => h) (fun _ _ _ _ h => h) fun _ _ x _ h => ⟨x, h⟩
    obtain ⟨ov, sl⟩ := x
    cases sl with
    | ow d => obtain ⟨p1, e1, e2, e3, c⟩ := q; exact ⟨p1, e1, e2, e3.1, c⟩
    | no => exact q
    | sh d => exact q
    | io k d => exact q
    | al i => exact q
    | raw v => exact q
    | fz o kvs => exact q
    | fr ds => exact q
    | clo c ds => exact q
  refine ⟨fun q h => (r.fresh q h).1, r.keep, r.kfr, nB, r.tb, r.kio, fun x m => ?_, ?_⟩
  · rcases List.mem_append.mp m with m | m
    · exact old x (List.mem_append_left _ m)
    · rcases List.mem_cons.mp m with rfl | m
      · exact ⟨np, rfl, h0, hB, hc.mono (fun a n _ => nn a n) (fun _ _ h _ => h) (fun _ _ _ h => h) fun _ h => h⟩
      · exact old x (List.mem_append_right _ m)
  · have h1 := r.dist
    rw [List.pairwise_append] at h1 ⊢
    obtain ⟨a, b, c⟩ := h1
    refine ⟨a, List.pairwise_cons.mpr ⟨fun y hy _ o a e1 e2 => ?_, b⟩, fun x hx y hy => ?_⟩
    · cases e1
      exact hno y (List.mem_append_right _ hy) o e2
    · rcases List.mem_cons.mp hy with rfl | hy
      · intro o _ a e1 e2
        cases e2
        exact hno x (List.mem_append_left _ hx) o e1
      · exact c x hx y hy
/-- an alias's slot -/
theorem RS.alias {v : V} {i : Nat} (r : RS K Γ σ δ γ H) (m : (some v, Sl.al i) ∈ γ) : σ[i]? = some (some v) := by
  obtain ⟨v', x, e1, e2⟩ := r.rel.each _ (List.mem_append_right _ m)
  cases e1
  exact (List.getElem?_zip_eq_some.mp e2).1
theorem own_ref {S : List Ent} {v : Option V} {s : Sl} (r : Rel K Γ S ((v, s) :: γ) H) (ho : s.own = true) : ∃ p, v = some (.ref p) ∧ Cn K (Nn Γ (S ++ (v, s) :: γ)) H p s.dat := by
  have q := r.each _ (List.mem_append_right S (List.mem_cons_self (a := (v, s)) (l := γ)))
  cases s with
  | ow d => obtain ⟨p, e1, _, _, c⟩ := q; exact ⟨p, e1, c⟩
  | io k d => obtain ⟨p, e1, _, c⟩ := q; exact ⟨p, e1, c⟩
  | _ => cases ho
end
section
variable {X : Cx} {W : XW} {pos : Pos}
theorem setD_own {s : Sl} {d : PyData} : (s.setD d).own = s.own := by cases s <;> rfl
/-- the way back from a callee that changed p -/
theorem d_callI {x : Str} {p : Pos} {f : Addr} {fd : FuncData} {k : Nat} {ps : List Str} {cl : Str → Value} {F : PyData → List PyData → FRes} {e : Expr} {es : List Expr} {ms : M (List Sl)} {E : XK} (G : FnOk X.prog X.w X.K X.mg X.base (L2.CX X.prog X.w) k f fd ps (spI X.K cl F)) (hr : Room k X.A) (hg : Gl X x) (hm : X.mg x = some (.ref f)) (hk : PySem.W.keepIn X.K (.ref f) = true)
    (hb : Binds X.K fd ps []) (hx : Passes (L2.CX X.prog X.w) X E) (ha : PA X (e :: es) (tAs X.K W ms))
    (hdb : (x == ("__debug__" : Str)) = false := by decide) (he : starEach (e :: es) X.env = (false, eval e X.env) :: starEach es X.env := by rfl) (hpl : (backTo pos (starEach es X.env)).any (·.1) = false := by rfl) :
    PE X (.Call (.Name x p) (e :: es) [] pos) (tV X.K W (ms >>= callI F)) :=
  PE.imp (pe_call G hr hg hm hk hb .nil hx ha hdb he hpl) fun σ H Q ⟨Γ, δ, γ, r, p⟩ => ⟨Γ, δ, γ, r, (Post.bind p).imp fun rs δ1 p1 vs H1 hl r1 => by
    unfold callI at p1
    cases rs with
    | nil => exact p1.elim
    | cons s0 rs' =>
      cases s0 with
      | al i =>
        cases vs with
        | nil => cases hl
        | cons v vs' =>
          have hal : σ[i]? = some (some v) := r1.alias (i := i) (v := v) List.mem_cons_self
          cases h0 : δ1[i]? with
          | none => simp only [h0] at p1; exact p1.elim
          | some s =>
            cases h1 : escs rs' with
            | none => simp only [h0, h1] at p1; exact p1.elim
            | some ds =>
              simp only [h0, h1] at p1
              by_cases hso : s.own = true
              · rw [if_pos hso] at p1
                cases h2 : F s.dat ds with
                | ok rr out =>
                  cases out with
                  | none => simp only [h2] at p1; exact p1.elim
                  | some d1 =>
                    simp only [h2] at p1
                    have r2 : RS X.K Γ σ δ1 ((vs'.map some).zip rs' ++ γ) H1 := r1.sublist (List.sublist_cons_self _ _)
                    obtain ⟨o, ho1, r3⟩ := r2.take h0
                    rw [hal] at ho1
                    cases ho1
                    -- s on the way, the arguments behind it
                    obtain ⟨q, eq, cq⟩ := own_ref (r3.rel) hso
                    cases eq
                    have r4 : RS X.K Γ σ (δ1.set i .no) ((vs'.map some).zip rs' ++ ((some (V.ref q), s) :: γ)) H1 := r3.perm List.perm_middle.symm
                    have ra := r4.escs (Nat.succ.inj hl) h1
                    have r5 : RS X.K Γ σ (δ1.set i .no) ((some (V.ref q), s) :: γ) H1 := r4.popN
                    obtain ⟨q', eq', cq'⟩ := own_ref (r5.rel) hso
                    cases eq'
                    rw [List.append_nil]
                    have hB : ¬ Nn Γ (σ.zip (δ1.set i .no) ++ (some (V.ref q), s) :: γ) q := fun z => z.2 ⟨_, List.mem_append_right _ List.mem_cons_self, hso, rfl⟩
                    refine ⟨_, q, vs', s.dat, ds, rfl, ⟨r5.rel.unal, fun a n => r5.rel.nb a n.1, r5.rel.tb⟩, hB, cq', ra, ?_⟩
                    rw [h2]
                    intro v' H' k hc ok
                    -- the changed slot's thing, then the result
                    have r6 : Rel X.K Γ (σ.zip (δ1.set i .no)) ((some (V.ref q), s.setD d1) :: γ) H' := r5.rel.changed hso rfl k (hc.mono (fun a n _ => n.1) (fun _ _ h _ => h) (fun _ _ _ h => h) fun _ h => h)
                    have r7 : Rel X.K Γ (σ.zip (δ1.set i .no)) ((some v', rr) :: (some (V.ref q), s.setD d1) :: γ) H' := by
                      have nn : ∀ a, Nn Γ (σ.zip (δ1.set i .no) ++ (some (V.ref q), s) :: γ) a → Nn Γ (σ.zip (δ1.set i .no) ++ (some (V.ref q), s.setD d1) :: γ) a := fun a n => ⟨n.1, fun z => n.2 (by
                        obtain ⟨y, hy, oy, ey⟩ := z
                        rcases List.mem_append.mp hy with hy | hy
                        · exact ⟨y, List.mem_append_left _ hy, oy, ey⟩
                        · rcases List.mem_cons.mp hy with rfl | hy
                          · exact ⟨_, List.mem_append_right _ List.mem_cons_self, hso, ey⟩
                          · exact ⟨y, List.mem_append_right _ (List.mem_cons_of_mem _ hy), oy, ey⟩)⟩
                      cases rr with
                      | sh d => exact r6.push rfl ⟨v', rfl, R.mono (fun a n _ => nn a n) (fun _ _ h _ => h) (fun _ _ _ h => h) ok⟩
                      | raw x => exact r6.push rfl (by cases ok; rfl)
                      | ow d =>
                        obtain ⟨np, rfl, hn, hcn⟩ := ok
                        have hc2 : Cn X.K (fun a => Nn Γ (σ.zip (δ1.set i .no) ++ (some (V.ref q), s) :: γ) a ∧ a ≠ np) H' q d1 := hc.mono (fun a n _ => ⟨n.1, fun z => n.2 rfl (by rw [z])⟩) (fun _ _ h _ => h) (fun _ _ _ h => h) fun _ h => h
                        have r7 := r5.rel.avoid hso rfl k hn hcn.there hc2
                        have h0 : Γ.H0 np = none := r5.rel.kfr np hn
                        refine r7.adopt r5.rel.nb (r5.rel.fresh np hn) h0 (fun x m o z => ?_) (hcn.mono (fun a n _ => ⟨⟨n.1.1, n.2⟩, (nn a n.1).2⟩) (fun _ _ h _ => h) (fun _ _ _ h => h) fun _ h => h)
                        rcases List.mem_append.mp m with m | m
                        · have w := r5.rel.each x (List.mem_append_left _ m)
                          obtain ⟨ov, sl⟩ := x
                          cases sl with
                          | ow d => obtain ⟨p1, e1, _, _, c⟩ := w; rw [z] at e1; cases e1; exact c.there hn
                          | io k d => obtain ⟨p1, e1, _, c⟩ := w; rw [z] at e1; cases e1; exact c.there hn
                          | _ => cases o
                        · rcases List.mem_cons.mp m with rfl | m
                          · cases z; exact cq'.there hn
                          · have w := r5.rel.each x (List.mem_append_right _ (List.mem_cons_of_mem _ m))
                            obtain ⟨ov, sl⟩ := x
                            cases sl with
                            | ow d => obtain ⟨p1, e1, _, _, c⟩ := w; rw [z] at e1; cases e1; exact c.there hn
                            | io k d => obtain ⟨p1, e1, _, c⟩ := w; rw [z] at e1; cases e1; exact c.there hn
                            | _ => cases o
                      | _ => exact ok.elim
                    have r8 : RS X.K Γ σ (δ1.set i .no) ((some (V.ref q), s.setD d1) :: (some v', rr) :: γ) H' := ⟨r1.len.set rfl, r7.perm (List.Perm.swap _ _ _)⟩
                    have hlt : i < δ1.length := (List.getElem?_eq_some_iff.mp h0).1
                    have r9 := r8.put (i := i) (s' := .no) hal (by rw [List.getElem?_set_self hlt]) (by cases s <;> first | rfl | cases hso)
                    rw [List.set_set] at r9
                    exact p1 v' H' r9
                | er ex => simp only [h2] at p1; exact p1.elim
                | no => simp only [h2] at p1; exact p1.elim
              · rw [if_neg hso] at p1; exact p1.elim
      | _ => exact p1.elim⟩
end
end DL

set_option Elab.async false
set_option linter.all false
set_option maxRecDepth 100000
set_option maxHeartbeats 1000000
namespace DL
open PySem PySem.Spec PyProof.Rows L2

/-! ### tests -/
def boolM (s : Sl) : M Bool := fun δ => match s with
  | .sh (.bool b) => .ok b δ
  | _ => .no
section
variable {X : Cx} {W : XW} {pos : Pos}
theorem bool_at {K : PySem.W.Frag} {Γ : Gm} {σ : L2.St} {δ : List Sl} {γ : List Ent} {H : Hp} {v : V} {s : Sl} {Q : Bool → Hp → Prop} (r : RS K Γ σ δ ((some v, s) :: γ) H) (p : Post K W Γ σ γ (boolM s δ) fun b δ' => ∀ H', RS K Γ σ δ' γ H' → Q b H') : ∃ c, v = .bl c ∧ Q c H := by
  cases s with
  | sh d =>
    have q := r.get (List.mem_append_right _ List.mem_cons_self)
    cases d with
    | bool b => cases q; exact ⟨b, rfl, p H r.pop⟩
    | _ => exact False.elim p
  | _ => exact False.elim p
def tst (m : M Sl) : M Bool := m >>= boolM
theorem dt_val {e : Expr} {m : M Sl} (h : PE X e (tV X.K W m)) (he : ∀ whole, isTrue e X.env whole = (do let v ← whole; standAt e.pos; holding [v] (truthy v)) := by intro _; rfl) : PT X e (tBo X.K W (tst m)) :=
  PT.imp (pt_val h he) fun σ H Q ⟨Γ, δ, γ, r, p⟩ => ⟨Γ, δ, γ, r, (Post.bind p).imp fun s δ1 p1 v H1 r1 => bool_at r1 p1⟩
theorem dt_cmp {op : CmpOp} {a b : Expr} {r : R2} {g : List PyData → Option Out} {ma mb : M Sl} (ho : OpR X (compareOp op) r) (hi : Impl X.K (fun vs => match vs with
      | [x, y] => r x y
      | _ => fun _ _ => False) g) (ha : PE X a (tV X.K W ma)) (hb : PE X b (tV X.K W mb)) (hm : behindInMarks op b = false) : PT X (.Compare a [op] [b] pos) (tBo X.K W (tst (mBin g ma mb))) :=
  PT.imp (pt_cmpR ho ha hb hm) fun σ H Q ⟨Γ, δ, γ, r, p⟩ => by
    have h : tV X.K W (mBin g ma mb) σ H (fun x H' => ∃ k, x = .bl k ∧ Q k H') := ⟨Γ, δ, γ, r, (Post.bind p).imp fun s δ1 p1 v H1 r1 => bool_at r1 p1⟩
    exact seq2 h fun Γ δ γ v w x y H' r p =>
      run_op hi (vs := [v, w]) (rs := [x, y]) (γ' := γ) r (fun e m => by
        rcases List.mem_cons.mp m with rfl | m
        · exact List.mem_cons_of_mem _ List.mem_cons_self
        · rcases List.mem_cons.mp m with rfl | m
          · exact List.mem_cons_self
          · cases m) rfl (p.imp fun s δ' k v' H'' r' => k v' H'' (drop1 (γ₀ := [(some w, y), (some v, x)]) r'))
def bNot (t : M Bool) : M Bool := t >>= fun b => pure (!b)
theorem dt_not {a : Expr} {t : M Bool} (ha : PT X a (tBo X.K W t)) : PT X (.UnaryOp .Not a pos) (tBo X.K W (bNot t)) :=
  PT.imp (pt_not ha) fun σ H Q ⟨Γ, δ, γ, r, p⟩ => ⟨Γ, δ, γ, r, (Post.bind p).imp fun b δ1 p1 => p1⟩
def bAnd (t u : M Bool) : M Bool := t >>= fun b => if b = true then u else pure false
def bOr (t u : M Bool) : M Bool := t >>= fun b => if b = true then pure true else u
variable {a b : Expr} {rest : List Expr} {t u : M Bool}
theorem dw_and1 (ha : PT X a (tBo X.K W t)) : PW X (.BoolOp .And [a] pos) (tBo X.K W t) := pw_and1 ha
theorem dw_or1 (ha : PT X a (tBo X.K W t)) : PW X (.BoolOp .Or [a] pos) (tBo X.K W t) := pw_or1 ha
theorem dw_and (ha : PT X a (tBo X.K W t)) (hb : PW X (.BoolOp .And (b :: rest) pos) (tBo X.K W u)) : PW X (.BoolOp .And (a :: b :: rest) pos) (tBo X.K W (bAnd t u)) :=
  PW.imp (pw_and ha hb) fun σ H Q ⟨Γ, δ, γ, r, p⟩ => ⟨Γ, δ, γ, r, (Post.bind p).imp fun c δ1 p1 H1 r1 => by
    cases c with
    | true => rw [if_pos rfl] at p1 ⊢; exact ⟨Γ, δ1, γ, r1, p1⟩
    | false => rw [if_neg Bool.false_ne_true] at p1 ⊢; exact p1 H1 r1⟩
theorem dw_or (ha : PT X a (tBo X.K W t)) (hb : PW X (.BoolOp .Or (b :: rest) pos) (tBo X.K W u)) : PW X (.BoolOp .Or (a :: b :: rest) pos) (tBo X.K W (bOr t u)) :=
  PW.imp (pw_or ha hb) fun σ H Q ⟨Γ, δ, γ, r, p⟩ => ⟨Γ, δ, γ, r, (Post.bind p).imp fun c δ1 p1 H1 r1 => by
    cases c with
    | true => rw [if_pos rfl] at p1 ⊢; exact p1 H1 r1
    | false => rw [if_neg Bool.false_ne_true] at p1 ⊢; exact ⟨Γ, δ1, γ, r1, p1⟩⟩
/-- .. as values -/
def andV (m n : M Sl) : M Sl := m >>= fun s => boolM s >>= fun b => if b = true then n else cM (.bool false)
def orV (m n : M Sl) : M Sl := m >>= fun s => boolM s >>= fun b => if b = true then cM (.bool true) else n
theorem bool_at2 {K : PySem.W.Frag} {Γ : Gm} {σ : L2.St} {δ : List Sl} {γ : List Ent} {H : Hp} {v : V} {s : Sl} {k : Bool → List Sl → Prop} (r : RS K Γ σ δ ((some v, s) :: γ) H) (p : Post K W Γ σ γ (boolM s δ) k) : ∃ c, v = .bl c ∧ k c δ := by
  cases s with
  | sh d =>
    have q := r.get (List.mem_append_right _ List.mem_cons_self)
    cases d with
    | bool b => cases q; exact ⟨b, rfl, p⟩
    | _ => exact False.elim p
  | _ => exact False.elim p
variable {m n : M Sl}
theorem d_one {op} (h : PE X a (tV X.K W m)) : PE X (.BoolOp op [a] pos) (tV X.K W m) := pe_one h
theorem d_and (ha : PE X a (tV X.K W m)) (hb : PE X (.BoolOp .And (b :: rest) pos) (tV X.K W n)) : PE X (.BoolOp .And (a :: b :: rest) pos) (tV X.K W (andV m n)) :=
  PE.imp (pe_and ha hb) fun σ H Q ⟨Γ, δ, γ, r, p⟩ => ⟨Γ, δ, γ, r, (Post.bind p).imp fun s δ1 p1 v H1 r1 => by
    obtain ⟨c, rfl, p2⟩ := bool_at2 r1 (Post.bind p1)
    refine ⟨c, rfl, ?_⟩
    cases c with
    | true => rw [if_pos rfl] at p2 ⊢; exact ⟨Γ, δ1, γ, r1.pop, p2⟩
    | false => rw [if_neg Bool.false_ne_true] at p2 ⊢; exact p2 _ H1 ⟨r1.len, r1.pop.rel.push rfl ⟨_, rfl, .bl _⟩⟩⟩
theorem d_or (ha : PE X a (tV X.K W m)) (hb : PE X (.BoolOp .Or (b :: rest) pos) (tV X.K W n)) : PE X (.BoolOp .Or (a :: b :: rest) pos) (tV X.K W (orV m n)) :=
  PE.imp (pe_or ha hb) fun σ H Q ⟨Γ, δ, γ, r, p⟩ => ⟨Γ, δ, γ, r, (Post.bind p).imp fun s δ1 p1 v H1 r1 => by
    obtain ⟨c, rfl, p2⟩ := bool_at2 r1 (Post.bind p1)
    refine ⟨c, rfl, ?_⟩
    cases c with
    | true => rw [if_pos rfl] at p2 ⊢; exact p2 _ H1 ⟨r1.len, r1.pop.rel.push rfl ⟨_, rfl, .bl _⟩⟩
    | false => rw [if_neg Bool.false_ne_true] at p2 ⊢; exact ⟨Γ, δ1, γ, r1.pop, p2⟩⟩
def notV (m : M Sl) : M Sl := m >>= fun s => boolM s >>= fun b => cM (.bool (!b))
theorem d_not (ha : PE X a (tV X.K W m)) : PE X (.UnaryOp .Not a pos) (tV X.K W (notV m)) :=
  PE.imp (pe_not ha) fun σ H Q ⟨Γ, δ, γ, r, p⟩ => ⟨Γ, δ, γ, r, (Post.bind p).imp fun s δ1 p1 v H1 r1 => by
    obtain ⟨c, rfl, p2⟩ := bool_at2 r1 (Post.bind p1)
    exact ⟨c, rfl, p2 _ H1 ⟨r1.len, r1.pop.rel.push rfl ⟨_, rfl, .bl _⟩⟩⟩⟩
def ifV (t : M Bool) (m n : M Sl) : M Sl := t >>= fun b => if b = true then m else n
theorem d_ifExp {c : Expr} (hc : PT X c (tBo X.K W t)) (ha : PE X a (tV X.K W m)) (hb : PE X b (tV X.K W n)) : PE X (.IfExp c a b pos) (tV X.K W (ifV t m n)) :=
  PE.imp (pe_ifExp hc ha hb) fun σ H Q ⟨Γ, δ, γ, r, p⟩ => ⟨Γ, δ, γ, r, (Post.bind p).imp fun c δ1 p1 H1 r1 => by
    cases c with
    | true => rw [if_pos rfl] at p1 ⊢; exact ⟨Γ, δ1, γ, r1, p1⟩
    | false => rw [if_neg Bool.false_ne_true] at p1 ⊢; exact ⟨Γ, δ1, γ, r1, p1⟩⟩
end

/-! ### statements -/
inductive SRes where
  | nx (δ : List Sl)
  | rt (r : Sl) (δ : List Sl)
  | bk (δ : List Sl)
  | ct (δ : List Sl)
  | er (e : Ex) (δ : List Sl)
  | no
def SM := List Sl → SRes
def NoAl (γ : List Ent) : Prop := ∀ e ∈ γ, e.2.isAl = false
def SPost (K : PySem.W.Frag) (W : XW) (Γ : Gm) (γ : List Ent) (x : SRes) (D : Ends) : Prop :=
  match x with
  | .nx δ => ∀ σ H, RS K Γ σ δ γ H → D.nx σ H
  | .rt r δ => ∀ σ v H, RS K Γ σ δ ((some v, r) :: γ) H → D.rt v H
  | .bk δ => ∀ σ H, RS K Γ σ δ γ H → D.bk σ H
  | .ct δ => ∀ σ H, RS K Γ σ δ γ H → D.ct σ H
  | .er e δ => ∀ σ H, RS K Γ σ δ γ H → W e σ H
  | .no => False
def tS (K : PySem.W.Frag) (W : XW) (m : SM) : TS := fun D σ H => ∃ Γ δ γ, RS K Γ σ δ γ H ∧ NoAl γ ∧ SPost K W Γ γ (m δ) D
theorem SPost.ext {K : PySem.W.Frag} {W : XW} {Γ : Gm} {γ : List Ent} {x : SRes} {D : Ends} (h : SPost K W Γ γ x D) (γ₀ : List Ent) : SPost K W Γ (γ₀ ++ γ) x D := by
  cases x with
  | nx δ => exact fun σ H r => h σ H r.popN
  | rt v δ => exact fun σ v H r => h σ v H (drop1 r)
  | bk δ => exact fun σ H r => h σ H r.popN
  | ct δ => exact fun σ H r => h σ H r.popN
  | er e δ => exact fun σ H r => h σ H r.popN
  | no => exact h
def M.toS (m : M α) (f : α → List Sl → SRes) : SM := fun δ => match m δ with
  | .ok a δ' => f a δ'
  | .er e δ' => .er e δ'
  | .no => .no
theorem toS_post {α : Type} {K : PySem.W.Frag} {W : XW} {Γ : Gm} {σ : L2.St} {γ : List Ent} {D : Ends} {m : M α} {f : α → List Sl → SRes} {δ : List Sl} (h : SPost K W Γ γ (M.toS m f δ) D) : Post K W Γ σ γ (m δ) fun a δ' => SPost K W Γ γ (f a δ') D := by
  unfold M.toS at h
  cases q : m δ with
  | ok a δ' => simp only [q] at h; exact h
  | er e δ' => simp only [q] at h; exact fun H' r => h σ H' r
  | no => simp only [q] at h; exact h
def seqS (s t : SM) : SM := fun δ => match s δ with
  | .nx δ' => t δ'
  | x => x
def nextS : SM := fun δ => .nx δ
section
variable {X : Cx} {W : XW} {pos : Pos} {st : Stmt} {rest : List Stmt} {s t : SM}
theorem ds_nil : PSs X [] (tS X.K W nextS) := PSs.imp pss_nil fun D σ H ⟨Γ, δ, γ, r, na, p⟩ => p σ H r
theorem ds_cons (h1 : PS X st (tS X.K W s)) (h2 : PSs X rest (tS X.K W t)) : PSs X (st :: rest) (tS X.K W (seqS s t)) :=
  PSs.imp (pss_cons h1 h2) fun D σ H ⟨Γ, δ, γ, r, na, p⟩ => ⟨Γ, δ, γ, r, na, by
    unfold seqS at p
    cases q : s δ with
    | nx δ' => simp only [q] at p; exact fun σ' H' r' => ⟨Γ, δ', γ, r', na, p⟩
    | rt v δ' => simp only [q] at p; exact p
    | bk δ' => simp only [q] at p; exact p
    | ct δ' => simp only [q] at p; exact p
    | er e δ' => simp only [q] at p; exact p
    | no => simp only [q] at p; exact p⟩
theorem ds_one (h1 : PS X st (tS X.K W s)) : PSs X [st] (tS X.K W s) := pss_one h1
theorem ds_pass : PS X (.Pass pos) (tS X.K W nextS) := PS.imp ps_pass fun D σ H ⟨Γ, δ, γ, r, na, p⟩ => p σ H r
def breakS : SM := fun δ => .bk δ
def contS : SM := fun δ => .ct δ
theorem ds_break : PS X (.Break pos) (tS X.K W breakS) := PS.imp ps_break fun D σ H ⟨Γ, δ, γ, r, na, p⟩ => p σ H r
theorem ds_cont : PS X (.Continue pos) (tS X.K W contS) := PS.imp ps_continue fun D σ H ⟨Γ, δ, γ, r, na, p⟩ => p σ H r
theorem ds_doc {x j pos pos'} : PS X (.Expr (.Constant (.str x) j pos) pos') (tS X.K W nextS) := PS.imp ps_doc fun D σ H ⟨Γ, δ, γ, r, na, p⟩ => p σ H r
def exprS (m : M Sl) : SM := M.toS m fun _ δ => .nx δ
theorem ds_expr {e : Expr} {m : M Sl} (he : PE X e (tV X.K W m)) (hs : swapsWith e none pos.line X.env = pure false := by rfl) : PS X (.Expr e pos) (tS X.K W (exprS m)) :=
  PS.imp (ps_expr he hs) fun D σ H ⟨Γ, δ, γ, r, na, p⟩ => ⟨Γ, δ, γ, r, (toS_post p).imp fun x δ' p' v H' r' => p' σ H' r'.pop⟩
def retS (m : M Sl) : SM := M.toS m fun x δ => .rt x δ
theorem ds_ret {e : Expr} {m : M Sl} (he : PE X e (tV X.K W m)) : PS X (.Return (some e) pos) (tS X.K W (retS m)) :=
  PS.imp (ps_ret he) fun D σ H ⟨Γ, δ, γ, r, na, p⟩ => ⟨Γ, δ, γ, r, (toS_post p).imp fun x δ' p' v H' r' => p' σ v H' r'⟩
def retNS : SM := fun δ => .rt (.sh .none) δ
theorem ds_retN : PS X (.Return none pos) (tS X.K W retNS) := PS.imp ps_retN fun D σ H ⟨Γ, δ, γ, r, na, p⟩ => p σ .non H ⟨r.len, r.rel.push rfl ⟨_, rfl, .non⟩⟩
def ifS (c : M Bool) (s t : SM) : SM := M.toS c fun b δ => if b = true then s δ else t δ
theorem ds_if {c : Expr} {a b : List Stmt} {tc : M Bool} (hc : PT X c (tBo X.K W tc)) (ha : PSs X a (tS X.K W s)) (hb : PSs X b (tS X.K W t)) : PS X (.If c a b pos) (tS X.K W (ifS tc s t)) :=
  PS.imp (ps_if hc ha hb) fun D σ H ⟨Γ, δ, γ, r, na, p⟩ => ⟨Γ, δ, γ, r, (toS_post p).imp fun b δ' p' H' r' => by
    cases b with
    | true => rw [if_pos rfl] at p' ⊢; exact ⟨Γ, δ', γ, r', na, p'⟩
    | false => rw [if_neg Bool.false_ne_true] at p' ⊢; exact ⟨Γ, δ', γ, r', na, p'⟩⟩

/-! ### targets -/
abbrev GM := Sl → List Sl → Option (List Sl)
/-- the slots but these stand -/
def Chg (ts : List Nat) (σ σ' : L2.St) : Prop := σ'.length = σ.length ∧ ∀ j, j ∉ ts → σ'[j]? = σ[j]?
theorem Chg.refl {ts : List Nat} {σ : L2.St} : Chg ts σ σ := ⟨rfl, fun _ _ => rfl⟩
theorem Chg.trans {ts us : List Nat} {σ σ' σ'' : L2.St} (h : Chg ts σ σ') (h' : Chg us σ' σ'') : Chg (ts ++ us) σ σ'' :=
  ⟨h'.1.trans h.1, fun j hj => (h'.2 j fun z => hj (List.mem_append_right _ z)).trans (h.2 j fun z => hj (List.mem_append_left _ z))⟩
def tG (K : PySem.W.Frag) (ts : List Nat) (g : GM) : TG := fun v σ H Q => ∃ Γ δ γ s, RS K Γ σ δ ((some v, s) :: γ) H ∧ NoAl γ ∧ match g s δ with
  | some δ' => ∀ σ' H', Chg ts σ σ' → RS K Γ σ' δ' γ H' → Q σ' H'
  | none => False
def isIo : Sl → Bool
  | .io _ _ => true
  | _ => false
/-- a name: what is let in, and over what -/
def nameG (i : Nat) : GM := fun s δ => match δ[i]? with
  | some o => if isIo o = true ∨ s.isAl = true ∨ isIo s = true then none else some (δ.set i s)
  | none => none
theorem RS.store {K : PySem.W.Frag} {Γ : Gm} {σ : L2.St} {δ δ' : List Sl} {γ : List Ent} {H : Hp} {v : V} {s : Sl} {i : Nat} (r : RS K Γ σ δ ((some v, s) :: γ) H) (na : NoAl γ) (h : nameG i s δ = some δ') : RS K Γ (σ.set i (some v)) δ' γ H := by
  unfold nameG at h
  cases q : δ[i]? with
  | none => simp only [q] at h; cases h
  | some o =>
    simp only [q] at h
    by_cases c : isIo o = true ∨ s.isAl = true ∨ isIo s = true
    · rw [if_pos c] at h; cases h
    · rw [if_neg c] at h
      cases h
      have ha : s.isAl = false := by
        cases z : s.isAl with
        | false => rfl
        | true => exact absurd (.inr (.inl z)) c
      have hl : i < δ.length := (List.getElem?_eq_some_iff.mp q).1
      refine ⟨⟨by rw [List.length_set, List.length_set]; exact r.len.eq, (r.len.set ha).na⟩, ?_⟩
      rw [← zip_set]
      refine r.rel.store (by rw [List.length_zip]; have := r.len.eq; omega) ha fun x m => ?_
      rcases List.mem_append.mp m with m | m
      · exact r.len.na x.2 (List.of_mem_zip m).2
      · exact na x m
theorem dg_name {i : Nat} {x : Str} (hN : X.N.Nodup) (hi : X.N[i]? = some x) (hx : Loc X.env.scope x) (hf : X.fn x = true ∨ X.env.scope.names.lookup x = some .local := by first | exact .inl rfl | exact .inr rfl | assumption) : PG X (.Name x pos) (tG X.K [i] (nameG i)) := by
  refine ⟨fun pins s σ H v u Q I rv ⟨Γ, δ, γ, sl, r, na, p⟩ => ?_⟩
  refine (pg_name hN hi hx hf).run pins s σ H v u Q I rv ?_
  cases q : nameG i sl δ with
  | none => simp only [q] at p
  | some δ' => simp only [q] at p; exact p _ H ⟨List.length_set, fun j hj => List.getElem?_set_ne (fun (z : i = j) => hj (by rw [z]; exact List.mem_cons_self))⟩ (r.store na q)
abbrev GMs := List PyData → List Sl → Option (List Sl)
def tGs (K : PySem.W.Frag) (ts : List Nat) (g : GMs) : TGs := fun vs σ H Q => ∃ Γ δ γ ds, vs.length = ds.length ∧ RS K Γ σ δ ((vs.map some).zip (ds.map .sh) ++ γ) H ∧ NoAl γ ∧ match g ds δ with
  | some δ' => ∀ σ' H', Chg ts σ σ' → RS K Γ σ' δ' γ H' → Q σ' H'
  | none => False
def nilG : GMs := fun ds δ => match ds with
  | [] => some δ
  | _ => none
def consG (g : GM) (gs : GMs) : GMs := fun ds δ => match ds with
  | d :: r => match g (.sh d) δ with
    | some δ' => gs r δ'
    | none => none
  | [] => none
theorem dgs_nil : PGs X [] (tGs X.K [] nilG) := by
  refine ⟨fun pins s σ H vs us Q I r ⟨Γ, δ, γ, ds, hl, rs, na, p⟩ => pgs_nil.run pins s σ H vs us Q I r ?_⟩
  cases ds with
  | nil =>
    cases vs with
    | nil => exact ⟨rfl, p σ H .refl rs⟩
    | cons _ _ => cases hl
  | cons d r => exact False.elim p
theorem dgs_cons {e : Expr} {es : List Expr} {ts us : List Nat} {g : GM} {gs : GMs} (h1 : PG X e (tG X.K ts g)) (h2 : PGs X es (tGs X.K us gs))
    (hs : (assignEach (e :: es) X.env).map (·.2) = assign e X.env :: (assignEach es X.env).map (·.2) := by rfl) : PGs X (e :: es) (tGs X.K (ts ++ us) (consG g gs)) := by
  refine ⟨fun pins s σ H vs us Q I r ⟨Γ, δ, γ, ds, hl, rs, na, p⟩ => (pgs_cons h1 h2 hs).run pins s σ H vs us Q I r ?_⟩
  cases ds with
  | nil => exact False.elim p
  | cons d ds' =>
    cases vs with
    | nil => cases hl
    | cons v vs' =>
      have na' : NoAl ((vs'.map some).zip (ds'.map Sl.sh) ++ γ) := fun e m => by
        rcases List.mem_append.mp m with m | m
        · obtain ⟨_, m2⟩ := List.of_mem_zip (show (e.1, e.2) ∈ _ from m)
          obtain ⟨d', _, e'⟩ := List.mem_map.mp m2
          rw [← e'] <;> rfl
        · exact na e m
      refine ⟨v, vs', rfl, Γ, δ, _, .sh d, rs, na', ?_⟩
      unfold consG at p
      cases q : g (.sh d) δ with
      | none => simp only [q] at p
      | some δ' =>
        simp only [q] at p
        exact fun σ' H' ch r' => ⟨Γ, δ', γ, ds', Nat.succ.inj hl, r', na, by
          cases q2 : gs ds' δ' with
          | none => simp only [q2] at p
          | some δ2 => simp only [q2] at p; exact fun σ2 H2 ch2 r2 => p σ2 H2 (ch.trans ch2) r2⟩
/-- a tuple's parts -/
def tupG (n : Nat) (gs : GMs) : GM := fun s δ => match s with
  | .sh (.tuple ds) => if ds.length = n then gs ds δ else none
  | _ => none
theorem RS.parts {K : PySem.W.Frag} {Γ : Gm} {σ : L2.St} {δ : List Sl} {γ : List Ent} {H : Hp} : ∀ {vs : List V} {ds : List PyData}, RS K Γ σ δ γ H → RA K (Nn Γ (σ.zip δ ++ γ)) H vs ds → RS K Γ σ δ ((vs.map some).zip (ds.map .sh) ++ γ) H
  | [], [], r, _ => r
  | v :: vs, d :: ds, r, h => by
    cases h with
    | cons h1 h2 =>
      have r2 := RS.parts r h2
      refine ⟨r.len, r2.rel.push rfl ⟨v, rfl, h1.mono (fun a n _ => ⟨n.1, fun z => n.2 ?_⟩) (fun _ _ h _ => h) fun _ _ _ h => h⟩⟩
      obtain ⟨y, hy, oy, ey⟩ := z
      rcases List.mem_append.mp hy with hy | hy
      · exact ⟨y, List.mem_append_left _ hy, oy, ey⟩
      · rcases List.mem_append.mp hy with hy | hy
        · obtain ⟨_, m2⟩ := List.of_mem_zip (show (y.1, y.2) ∈ _ from hy)
          obtain ⟨d', _, e'⟩ := List.mem_map.mp m2
          rw [← e'] at oy; cases oy
        · exact ⟨y, List.mem_append_right _ hy, oy, ey⟩
  | [], _ :: _, _, h => by cases h
  | _ :: _, [], _, h => by cases h
theorem dg_tup {es : List Expr} {k : Nat} {gs : GMs} {n : Nat} {ts : List Nat} (hc : X.calm = true) (h : PGs X es (tGs X.K ts gs))
    (hn : (assignEach es X.env).length = n := by rfl) (hst : (assignEach es X.env).findIdx? (·.1) = none := by rfl) : PG X (.Tuple es k pos) (tG X.K ts (tupG n gs)) := by
  refine ⟨fun pins s σ H v u Q I rv ⟨Γ, δ, γ, sl, r, na, p⟩ => (pg_tup (pos := pos) (k := k) hc h hn hst).run pins s σ H v u Q I rv ?_⟩
  cases sl with
  | sh d =>
    cases d with
    | tuple ds =>
      have q := r.get (List.mem_append_right _ List.mem_cons_self)
      obtain ⟨a', xs', ea, ht, ra⟩ := q.sqt
      subst ea
      simp only [tupG] at p
      by_cases hz : ds.length = n
      · rw [if_pos hz] at p
        refine ⟨_, _, rfl, ht, ra.length.trans hz, Γ, δ, _, ds, ra.length, r.parts ra, fun e m => ?_, ?_⟩
        · rcases List.mem_cons.mp m with rfl | m
          · rfl
          · exact na e m
        · cases q : gs ds δ with
          | none => simp only [q] at p
          | some δ' => simp only [q] at p; exact fun σ' H' ch r' => p σ' H' ch r'.pop
      · rw [if_neg hz] at p; exact False.elim p
    | _ => exact False.elim p
  | _ => exact False.elim p
def setS (m : M Sl) (g : GM) : SM := M.toS m fun x δ => match g x δ with
  | some δ' => .nx δ'
  | none => .no
theorem ds_set {i : Nat} {x : Str} {e : Expr} {m : M Sl} {pos' : Pos} (hN : X.N.Nodup) (hi : X.N[i]? = some x) (hx : Loc X.env.scope x) (he : PE X e (tV X.K W m)) (hs : swapsWith e (some (.Name x pos')) pos.line X.env = pure false := by rfl) (hf : X.fn x = true ∨ X.env.scope.names.lookup x = some .local := by first | exact .inl rfl | exact .inr rfl | assumption) :
    PS X (.Assign [.Name x pos'] e pos) (tS X.K W (setS m (nameG i))) :=
  PS.imp (ps_set hN hi hx he hs hf) fun D σ H ⟨Γ, δ, γ, r, na, p⟩ => ⟨Γ, δ, γ, r, (toS_post p).imp fun x δ' p' v H' r' => by
    cases q : nameG i x δ' with
    | none => simp only [q] at p'; exact False.elim p'
    | some δ2 => simp only [q] at p'; exact p' _ H' (r'.store na q)⟩
theorem ds_asg {tg e : Expr} {m : M Sl} {g : GM} {ts : List Nat} (he : PE X e (tV X.K W m)) (hg : PG X tg (tG X.K ts g)) (hs : swapsWithSole [tg] e pos.line X.env = pure false := by rfl) (hw : swappedStores [tg] e X.env = pure none := by rfl)
    (h1 : (assignEach [tg] X.env).map (·.2) = [assign tg X.env] := by rfl) : PS X (.Assign [tg] e pos) (tS X.K W (setS m g)) :=
  PS.imp (ps_asg he hg hs hw h1) fun D σ H ⟨Γ, δ, γ, r, na, p⟩ => ⟨Γ, δ, γ, r, (toS_post p).imp fun x δ' p' v H' r' => ⟨Γ, δ', γ, x, r', na, by
    cases q : g x δ' with
    | none => simp only [q] at p'; exact False.elim p'
    | some δ2 => simp only [q] at p'; exact fun σ' H2 _ r2 => p' σ' H2 r2⟩⟩
end

/-! ### loops -/
def Yl (K : PySem.W.Frag) (J : It) (γi : List Ent) (items : List PyData) : Prop := ∀ (Γ : Gm) (σ : L2.St) (δ : List Sl) (γ : List Ent) (H : Hp), RS K Γ σ δ (γi ++ γ) H → ∀ i, (i < items.length → J.go i H) ∧ (items.length ≤ i → J.stop i H) ∧
  ∀ x H' d, J.yld i H x H' → items[i]? = some d → RS K Γ σ δ ((some x, .sh d) :: (γi ++ γ)) H'
def tI (K : PySem.W.Frag) (W : XW) (m : M (List PyData)) : TI := fun σ H R => ∃ Γ δ γ, RS K Γ σ δ γ H ∧ Post K W Γ σ γ (m δ) fun items δ' => ∀ J H' γi, NoAl γi → RS K Γ σ δ' (γi ++ γ) H' → Yl K J γi items → R J H'
theorem PI.imp {X : Cx} {tg e : Expr} {t t' : TI} (h : PI X tg e t) (f : ∀ σ H R, t' σ H R → t σ H R) : PI X tg e t' := ⟨fun pins s σ H R I q => h.run pins s σ H R I (f _ _ _ q)⟩
theorem PI.or {X : Cx} {tg e : Expr} {t t' : TI} (h : PI X tg e t) (h' : PI X tg e t') : PI X tg e (fun σ H R => t σ H R ∨ t' σ H R) := ⟨fun pins s σ H R I q => q.elim (h.run pins s σ H R I) (h'.run pins s σ H R I)⟩
def forL (g : GM) (body : SM) : List PyData → SM
  | [], δ => .nx δ
  | d :: r, δ => match g (.sh d) δ with
    | none => .no
    | some δ1 => match body δ1 with
      | .nx δ2 => forL g body r δ2
      | .ct δ2 => forL g body r δ2
      | .bk δ2 => .nx δ2
      | x => x
def forS (m : M (List PyData)) (g : GM) (body : SM) : SM := M.toS m fun items δ => forL g body items δ
theorem NoAl.app {γ γ' : List Ent} (h : NoAl γ) (h' : NoAl γ') : NoAl (γ ++ γ') := fun e m => (List.mem_append.mp m).elim (h e) (h' e)
section
variable {X : Cx} {W : XW} {pos : Pos}
theorem ds_for {tg iter : Expr} {body : List Stmt} {mi : M (List PyData)} {g : GM} {b : SM} {ts : List Nat} (hp : PassesOwn (model X.prog X.w) X.A X.env X.xe) (hc : X.calm = true) (hi : PI X tg iter (tI X.K W mi)) (hg : PG X tg (tG X.K ts g)) (hb : PSs X body (tS X.K W b))
    (hs : ∀ x, foldedSetIterable iter X.env x = pure x := by intro _; rfl) : PS X (.For tg iter body [] pos) (tS X.K W (forS mi g b)) :=
  PS.imp (ps_for hp hc hi hg hb hs) fun D σ H ⟨Γ, δ, γ, r, na, p⟩ => ⟨Γ, δ, γ, r, (toS_post p).imp fun items δ' p' J H' γi nai r' yl => by
    refine ⟨fun i m σ H => i + m = items.length ∧ ∃ δ, RS X.K Γ σ δ (γi ++ γ) H ∧ SPost X.K W Γ (γi ++ γ) (forL g b (items.drop i) δ) D, ⟨items.length, by omega, δ', r', p'.ext γi⟩, fun i m σ2 H2 ⟨e, δ2, r2, p2⟩ => ?_⟩
    obtain ⟨y1, y2, y3⟩ := yl Γ σ2 δ2 γ H2 r2 i
    by_cases hlt : i < items.length
    · refine .inr ⟨y1 hlt, fun σ H => i + 1 + (m - 1) = items.length ∧ ∃ δ, RS X.K Γ σ δ (γi ++ γ) H ∧ SPost X.K W Γ (γi ++ γ) (forL g b (items.drop (i + 1)) δ) D, fun σ' H' ⟨e', q⟩ => ⟨m - 1, by omega, e', q⟩, fun x H3 hy => ?_⟩
      have hd : items[i]? = some items[i] := List.getElem?_eq_getElem hlt
      have r3 := y3 x H3 _ hy hd
      rw [List.drop_eq_getElem_cons hlt] at p2
      unfold forL at p2
      refine ⟨Γ, δ2, γi ++ γ, .sh items[i], r3, nai.app na, ?_⟩
      cases q : g (.sh items[i]) δ2 with
      | none => simp only [q] at p2; exact p2
      | some δ3 =>
        simp only [q] at p2
        intro σ3 H5 _ r4
        refine ⟨Γ, δ3, γi ++ γ, r4, nai.app na, ?_⟩
        cases q2 : b δ3 with
        | nx δ4 => simp only [q2] at p2; exact fun σ4 H4 r5 => ⟨by omega, δ4, r5, p2⟩
        | ct δ4 => simp only [q2] at p2; exact fun σ4 H4 r5 => ⟨by omega, δ4, r5, p2⟩
        | bk δ4 => simp only [q2] at p2; exact fun σ4 H4 r5 => p2 σ4 H4 r5
        | rt v δ4 => simp only [q2] at p2; exact p2
        | er ex δ4 => simp only [q2] at p2; exact p2
        | no => simp only [q2] at p2; exact p2
    · refine .inl ⟨y2 (by omega), ?_⟩
      rw [List.drop_of_length_le (by omega)] at p2
      exact p2 σ2 H2 r2⟩
/-- while: so many turns at most -/
def whileL (c : M Bool) (body : SM) : Nat → SM
  | 0, _ => .no
  | n + 1, δ => match c δ with
    | .ok true δ1 => match body δ1 with
      | .nx δ2 => whileL c body n δ2
      | .ct δ2 => whileL c body n δ2
      | .bk δ2 => .nx δ2
      | x => x
    | .ok false δ1 => .nx δ1
    | .er e δ1 => .er e δ1
    | .no => .no
theorem ds_while {c : Expr} {body : List Stmt} {tc : M Bool} {b : SM} (n : Nat) (hp : PassesOwn (model X.prog X.w) X.A X.env X.xe) (hc : PT X c (tBo X.K W tc)) (hb : PSs X body (tS X.K W b)) : PS X (.While c body [] pos) (tS X.K W (whileL tc b n)) :=
  PS.imp (ps_while hp hc hb) fun D σ H ⟨Γ, δ, γ, r, na, p⟩ => by
    refine ⟨fun m σ H => ∃ δ, RS X.K Γ σ δ γ H ∧ SPost X.K W Γ γ (whileL tc b m δ) D, ⟨n, δ, r, p⟩, fun m σ1 H1 ⟨δ1, r1, p1⟩ => ?_⟩
    cases m with
    | zero => exact False.elim p1
    | succ m =>
      unfold whileL at p1
      refine ⟨Γ, δ1, γ, r1, ?_⟩
      cases q : tc δ1 with
      | no => simp only [q] at p1; exact p1
      | er e δ2 => simp only [q] at p1; exact fun H' r' => p1 σ1 H' r'
      | ok v δ2 =>
        intro H2 r2
        cases v with
        | false => simp only [q] at p1; rw [if_neg Bool.false_ne_true]; exact p1 σ1 H2 r2
        | true =>
          simp only [q] at p1
          rw [if_pos rfl]
          refine ⟨fun σ' H' => ∃ δ, RS X.K Γ σ' δ γ H' ∧ SPost X.K W Γ γ (whileL tc b m δ) D, fun σ' H' q => ⟨m, Nat.lt_succ_self m, q⟩, Γ, δ2, γ, r2, na, ?_⟩
          cases q2 : b δ2 with
          | nx δ3 => simp only [q2] at p1; exact fun σ4 H4 r5 => ⟨δ3, r5, p1⟩
          | ct δ3 => simp only [q2] at p1; exact fun σ4 H4 r5 => ⟨δ3, r5, p1⟩
          | bk δ3 => simp only [q2] at p1; exact fun σ4 H4 r5 => p1 σ4 H4 r5
          | rt v δ3 => simp only [q2] at p1; exact p1
          | er ex δ3 => simp only [q2] at p1; exact p1
          | no => simp only [q2] at p1; exact p1
/-- what a list, a tuple yields -/
def itemsM (m : M Sl) : M (List PyData) := m >>= fun s => fun δ => match s with
  | .sh (.list ds) => .ok ds δ
  | .sh (.tuple ds) => .ok ds δ
  | .ow (.list ds) => .ok ds δ
  | _ => .no
theorem yl_list {K : PySem.W.Frag} {a : Addr} {ds : List PyData} : Yl K (Itl K a) [(some (.ref a), .sh (.list ds))] ds := by
  intro Γ σ δ γ H r i
  have q := r.get (List.mem_append_right _ List.mem_cons_self)
  have key : ∃ xs, SqL K H a xs ∧ RA K (Nn Γ (σ.zip δ ++ ([(some (V.ref a), Sl.sh (.list ds))] ++ γ))) H xs ds := by
    cases q with
    | lst n h ra => exact ⟨_, .inl h, ra⟩
    | lstK h ra => exact ⟨_, LL.sq (H := H) (.inr h), ra⟩
  obtain ⟨xs, hs, ra⟩ := key
  refine ⟨fun hlt => ?_, fun hle => ⟨xs, hs, by rw [ra.length]; exact hle⟩, fun x H' d hy hd => ?_⟩
  · exact ⟨xs, xs[i]'(by rw [ra.length]; exact hlt), hs, List.getElem?_eq_getElem _⟩
  · obtain ⟨rfl, hy⟩ := hy
    obtain ⟨x', h1, h2⟩ := ra.get hd
    have h3 := hy xs hs
    rw [h1] at h3
    cases h3
    exact ⟨r.len, r.rel.push rfl ⟨x, rfl, h2⟩⟩
theorem yl_tup {K : PySem.W.Frag} {a : Addr} {ds : List PyData} : Yl K (Itt K a) [(some (.ref a), .sh (.tuple ds))] ds := by
  intro Γ σ δ γ H r i
  have q := r.get (List.mem_append_right _ List.mem_cons_self)
  obtain ⟨a', xs, ea, hs, ra⟩ := q.sqt
  cases ea
  refine ⟨fun hlt => ?_, fun hle => ⟨xs, hs, by rw [ra.length]; exact hle⟩, fun x H' d hy hd => ?_⟩
  · exact ⟨xs, xs[i]'(by rw [ra.length]; exact hlt), hs, List.getElem?_eq_getElem _⟩
  · obtain ⟨rfl, hy⟩ := hy
    obtain ⟨x', h1, h2⟩ := ra.get hd
    have h3 := hy xs hs
    rw [h1] at h3
    cases h3
    exact ⟨r.len, r.rel.push rfl ⟨x, rfl, h2⟩⟩
theorem di_seq {tg e : Expr} {m : M Sl} (he : PE X e (tV X.K W m)) : PI X tg e (tI X.K W (itemsM m)) :=
  PI.imp (PI.or (pi_list he) (pi_tup he)) fun σ H R ⟨Γ, δ, γ, r, p⟩ => by
    have p := Post.bind p
    have na1 : ∀ (v : V) (d : PyData), NoAl [(some v, Sl.sh d)] := fun v d e m => by
      rcases List.mem_cons.mp m with rfl | m
      · rfl
      · cases m
    cases q : m δ with
    | no => rw [q] at p; exact False.elim p
    | er ex δ1 => exact .inl ⟨Γ, δ, γ, r, by rw [q] at p ⊢; exact p⟩
    | ok s δ1 =>
      rw [q] at p
      have fin : ∀ ds H1 (v : V), RS X.K Γ σ δ1 ((some v, .sh (.list ds)) :: γ) H1 → (∀ J H' γi, NoAl γi → RS X.K Γ σ δ1 (γi ++ γ) H' → Yl X.K J γi ds → R J H') → ∃ a, v = .ref a ∧ (∃ xs, SqL X.K H1 a xs) ∧ R (Itl X.K a) H1 := fun ds H1 v r1 k => by
        have q := r1.get (List.mem_append_right _ List.mem_cons_self)
        cases q with
        | lst n h ra => exact ⟨_, rfl, ⟨_, .inl h⟩, k _ _ _ (na1 _ _) r1 yl_list⟩
        | lstK h ra => exact ⟨_, rfl, ⟨_, LL.sq (H := H1) (.inr h)⟩, k _ _ _ (na1 _ _) r1 yl_list⟩
      cases s with
      | sh d =>
        cases d with
        | list ds => exact .inl ⟨Γ, δ, γ, r, by rw [q]; exact fun v H1 r1 => fin ds H1 v r1 p⟩
        | tuple ds => exact .inr ⟨Γ, δ, γ, r, by
            rw [q]
            exact fun v H1 r1 => by
              have q := r1.get (List.mem_append_right _ List.mem_cons_self)
              obtain ⟨a', xs, ea, hs, ra⟩ := q.sqt
              subst ea
              exact ⟨_, rfl, ⟨_, hs⟩, p _ _ _ (na1 _ _) r1 yl_tup⟩⟩
        | _ => exact False.elim p
      | ow d =>
        cases d with
        | list ds => exact .inl ⟨Γ, δ, γ, r, by rw [q]; exact fun v H1 r1 => fin ds H1 v r1.release p⟩
        | _ => exact False.elim p
      | _ => exact False.elim p
end
end DL

set_option Elab.async false
set_option linter.all false
set_option maxRecDepth 100000
set_option maxHeartbeats 1000000
namespace DL
open PySem PySem.Spec PyProof.Rows L2

section
variable {K : PySem.W.Frag} {N : Addr → Prop} {H H' : Hp} {Γ : Gm} {σ : L2.St} {δ δ' : List Sl} {γ γ' : List Ent}
theorem R.updT {p : Addr} {o : HO} {v : V} {d : PyData} (h : R K N H v d) (hn : ¬ N p) (hm : MutD (H p)) : R K N (upd H p o) v d :=
  h.mono (fun _ n _ => n) (fun a u e nm => by rw [upd_ne (fun z => nm (by rw [z] at e; rw [← e]; exact hm))]; exact e) fun a u n e => by rw [upd_ne (fun (z : a = p) => hn (z ▸ n))]; exact e
theorem RA.updT {p : Addr} {o : HO} {v : List V} {d : List PyData} (h : RA K N H v d) (hn : ¬ N p) (hm : MutD (H p)) : RA K N (upd H p o) v d :=
  h.mono (fun _ n _ => n) (fun a u e nm => by rw [upd_ne (fun z => nm (by rw [z] at e; rw [← e]; exact hm))]; exact e) fun a u n e => by rw [upd_ne (fun (z : a = p) => hn (z ▸ n))]; exact e
theorem RK.updT {p : Addr} {o : HO} {v : List (Key × V)} {d : List (PyData × PyData)} (h : RK K N H v d) (hn : ¬ N p) (hm : MutD (H p)) : RK K N (upd H p o) v d :=
  h.mono (fun _ n _ => n) (fun a u e nm => by rw [upd_ne (fun z => nm (by rw [z] at e; rw [← e]; exact hm))]; exact e) fun a u n e => by rw [upd_ne (fun (z : a = p) => hn (z ▸ n))]; exact e
theorem RT.updT {p : Addr} {o : HO} {v : List (List Key × V)} {d : List (PyData × PyData)} (h : RT K N H v d) (hn : ¬ N p) (hm : MutD (H p)) : RT K N (upd H p o) v d :=
  h.mono (fun _ n _ => n) (fun a u e nm => by rw [upd_ne (fun z => nm (by rw [z] at e; rw [← e]; exact hm))]; exact e) fun a u n e => by rw [upd_ne (fun (z : a = p) => hn (z ▸ n))]; exact e

/-! ### changes of an owned object -/
def ImplMut (K : PySem.W.Frag) (r : V → List V → Hp → VK → Prop) (g : PyData → List PyData → Option (PyData × PyData)) : Prop :=
  ∀ (N : Addr → Prop) (H : Hp) (p : Addr) (c : PyData) (vs : List V) (ds : List PyData) (o c' : PyData) (Q : VK), ¬ N p → Cn K N H p c → RA K N H vs ds → g c ds = some (o, c') →
    (∀ ob v, Cn K N (upd H p ob) p c' → R K N (upd H p ob) v o → Q v (upd H p ob)) → r (.ref p) vs H Q
def ImplSet (K : PySem.W.Frag) (t : TSet) (g : PyData → PyData → PyData → Option PyData) : Prop :=
  ∀ (N : Addr → Prop) (H : Hp) (p : Addr) (c di d c' : PyData) (vi v : V) (Q : Hp → Prop), ¬ N p → Cn K N H p c → Top K N H vi di → R K N H v d → g c di d = some c' → (∀ ob, Cn K N (upd H p ob) p c' → Q (upd H p ob)) → t (.ref p) vi v H Q
/-- slot i's object written, the result on the way -/
theorem RS.write {i : Nat} {s : Sl} {v : V} {p : Addr} {ob : HO} {o c' : PyData} (r : RS K Γ σ (δ.set i .no) ((some (.ref p), s) :: γ) H) (hi : σ[i]? = some (some (.ref p))) (hl : i < δ.length) (ho : s.own = true)
    (hc : Cn K (Nn Γ (σ.zip (δ.set i .no) ++ (some (.ref p), s) :: γ)) (upd H p ob) p c') (hr : R K (Nn Γ (σ.zip (δ.set i .no) ++ (some (.ref p), s) :: γ)) (upd H p ob) v o) : RS K Γ σ (δ.set i (s.setD c')) ((some v, .sh o) :: γ) (upd H p ob) := by
  have hs : (∃ d, s = .ow d ∧ s.setD c' = .ow c') ∨ ∃ k d, s = .io k d ∧ s.setD c' = .io k c' := by
    cases s with
    | ow d => exact .inl ⟨d, rfl, rfl⟩
    | io k d => exact .inr ⟨k, d, rfl, rfl⟩
    | _ => cases ho
  have r2 := r.rel.write ho hs hc
  have nn : ∀ a, Nn Γ (σ.zip (δ.set i .no) ++ (some (V.ref p), s) :: γ) a → Nn Γ (σ.zip (δ.set i .no) ++ (some (V.ref p), s.setD c') :: γ) a := fun a n => ⟨n.1, fun z => n.2 (by
    obtain ⟨y, hy, oy, ey⟩ := z
    rcases List.mem_append.mp hy with hy | hy
    · exact ⟨y, List.mem_append_left _ hy, oy, ey⟩
    · rcases List.mem_cons.mp hy with rfl | hy
      · exact ⟨_, List.mem_append_right _ List.mem_cons_self, ho, ey⟩
      · exact ⟨y, List.mem_append_right _ (List.mem_cons_of_mem _ hy), oy, ey⟩)⟩
  have r3 := r2.push (e := (some v, .sh o)) rfl ⟨v, rfl, hr.mono (fun a n _ => nn a n) (fun _ _ h _ => h) fun _ _ _ h => h⟩
  have r4 : RS K Γ σ (δ.set i .no) ((some (V.ref p), s.setD c') :: (some v, .sh o) :: γ) (L2.upd H p ob) := ⟨r.len, r3.perm (List.Perm.swap _ _ _)⟩
  have r5 := r4.put (i := i) (s' := .no) hi (by rw [List.getElem?_set_self hl]) (by cases s <;> first | rfl | cases ho)
  rw [List.set_set] at r5
  exact r5
end
def ownM (i : Nat) : M Sl := fun δ => match δ[i]? with
  | some (.ow _) => .ok (.al i) δ
  | some (.io _ _) => .ok (.al i) δ
  | _ => .no
def chkC (T : String) (i : Nat) : M Unit := fun δ => match δ[i]? with
  | some s => match s.dat with
    | .list _ => if T = "list" then .ok () δ else .no
    | .dict _ => if T = "dict" then .ok () δ else .no
    | _ => .no
  | none => .no
def changeM (i : Nat) (g : PyData → List PyData → Option (PyData × PyData)) (rs : List Sl) : M Sl := fun δ => match δ[i]?, escs rs with
  | some s, some ds => if s.own = true then match g s.dat ds with
      | some (o, c) => .ok (.sh o) (δ.set i (s.setD c))
      | none => .no
    else .no
  | _, _ => .no
def mutM (T : String) (i : Nat) (g : PyData → List PyData → Option (PyData × PyData)) (ms : M (List Sl)) : M Sl := ownM i >>= fun _ => chkC T i >>= fun _ => ms >>= fun rs => changeM i g rs
section
variable {X : Cx} {W : XW} {pos : Pos}
theorem pv_own (i : Nat) {x : Str} {pos : Pos} (hN : X.N[i]? = some x := by rfl) (hv : Vis X.env.scope x := by first | exact Or.inl rfl | exact Or.inr (Or.inl rfl) | exact Or.inr (Or.inr rfl)) (hd : (x == ("__debug__" : Str)) = false := by decide)
    (hcd : (x == ("__classdict__" : Str)) = false := by decide) : PE X (.Name x pos) (tV X.K W (ownM i)) := PE.imp (pe_var hN hv hd hcd) fun σ H Q ⟨Γ, δ, γ, r, p⟩ => by
  unfold ownM at p
  cases h : δ[i]? with
  | none => simp only [h] at p; exact False.elim p
  | some s =>
    cases s with
    | ow d => simp only [h] at p; obtain ⟨v, e, r'⟩ := al_at r h rfl; exact ⟨v, e, p v H r'⟩
    | io k d => simp only [h] at p; obtain ⟨v, e, r'⟩ := al_at r h rfl; exact ⟨v, e, p v H r'⟩
    | _ => simp only [h] at p; exact False.elim p
theorem own_res {i : Nat} {δ : List Sl} {s : Sl} {δ' : List Sl} (h : ownM i δ = .ok s δ') : s = .al i ∧ δ' = δ := by
  unfold ownM at h
  split at h
  · cases h; exact ⟨rfl, rfl⟩
  · cases h; exact ⟨rfl, rfl⟩
  · cases h
theorem own_post {K : PySem.W.Frag} {Γ : Gm} {σ : L2.St} {γ : List Ent} {i : Nat} {δ : List Sl} {k : Sl → List Sl → Prop} (h : Post K W Γ σ γ (ownM i δ) k) : Post K W Γ σ γ (ownM i δ) fun s δ' => s = .al i ∧ k s δ' := by
  cases q : ownM i δ with
  | ok s δ' => rw [q] at h; exact ⟨(own_res q).1, h⟩
  | er e δ' => rw [q] at h; exact h
  | no => rw [q] at h; exact h
theorem chkC_ok {K : PySem.W.Frag} {T : String} {Γ : Gm} {σ : L2.St} {δ : List Sl} {γ γ' : List Ent} {k : Unit → List Sl → Prop} {H : Hp} {v : V} {i : Nat} (r : RS K Γ σ δ γ H) (m : (some v, Sl.al i) ∈ γ) (hs : ∃ s, δ[i]? = some s ∧ s.own = true) (h : Post K W Γ σ γ' (chkC T i δ) k) : tyV K T v H ∧ k () δ := by
  obtain ⟨s, hs, so⟩ := hs
  unfold chkC at h
  simp only [hs] at h
  obtain ⟨o, h1, h2⟩ := zip_at r.len.eq hs
  have hv := r.alias m
  rw [h1] at hv
  cases hv
  have q := r.rel.each _ (List.mem_append_left _ (List.mem_of_getElem? h2))
  have hc : ∃ p N, v = .ref p ∧ Cn K N H p s.dat := by
    cases s with
    | ow d => obtain ⟨p, e, _, _, c⟩ := q; cases e; exact ⟨_, _, rfl, c⟩
    | io k d => obtain ⟨p, e, _, c⟩ := q; cases e; exact ⟨_, _, rfl, c⟩
    | _ => cases so
  obtain ⟨p, N, rfl, c⟩ := hc
  cases hd : s.dat with
  | list ds =>
    rw [hd] at c
    simp only [hd] at h
    obtain ⟨xs, e, _⟩ := c
    by_cases ht : T = "list"
    · rw [if_pos ht] at h; exact ⟨.inl ⟨ht, xs, SqL.of e⟩, h⟩
    · rw [if_neg ht] at h; exact False.elim h
  | dict ds =>
    rw [hd] at c
    simp only [hd] at h
    by_cases ht : T = "dict"
    · rw [if_pos ht] at h
      refine ⟨.inr (.inr (.inl ⟨ht, ?_⟩)), h⟩
      rcases c with ⟨k, e, _⟩ | ⟨k, e, _⟩
      · exact .inl ⟨k, e⟩
      · exact .inr ⟨k, e⟩
    · rw [if_neg ht] at h; exact False.elim h
  | none => simp only [hd] at h; exact False.elim h
  | bool b => simp only [hd] at h; exact False.elim h
  | int b => simp only [hd] at h; exact False.elim h
  | str b => simp only [hd] at h; exact False.elim h
  | tuple b => simp only [hd] at h; exact False.elim h
theorem run_change {K : PySem.W.Frag} {Γ : Gm} {σ : L2.St} {δ : List Sl} {γ : List Ent} {H : Hp} {r : V → List V → Hp → VK → Prop} {g : PyData → List PyData → Option (PyData × PyData)} {v : V} {vs : List V} {rs : List Sl} {i : Nat} {Q : VK} (hi : ImplMut K r g)
    (r0 : RS K Γ σ δ ((vs.map some).zip rs ++ (some v, .al i) :: γ) H) (hl : vs.length = rs.length) (h : Post K W Γ σ γ (changeM i g rs δ) fun s δ' => ∀ v H', RS K Γ σ δ' ((some v, s) :: γ) H' → Q v H') : r v vs H Q := by
  unfold changeM at h
  have hv := r0.alias (v := v) (i := i) (List.mem_append_right _ List.mem_cons_self)
  cases h0 : δ[i]? with
  | none => simp only [h0] at h; exact False.elim h
  | some s =>
    cases h1 : escs rs with
    | none => simp only [h0, h1] at h; exact False.elim h
    | some ds =>
      simp only [h0, h1] at h
      by_cases so : s.own = true
      · rw [if_pos so] at h
        cases h2 : g s.dat ds with
        | none => simp only [h2] at h; exact False.elim h
        | some oc =>
          obtain ⟨o, c⟩ := oc
          simp only [h2] at h
          have r1 : RS K Γ σ δ ((vs.map some).zip rs ++ γ) H := r0.sublist ((List.Sublist.refl _).append (List.sublist_cons_self _ _))
          obtain ⟨o', ho', r2⟩ := r1.take h0
          rw [hv] at ho'
          cases ho'
          have r3 : RS K Γ σ (δ.set i .no) ((vs.map some).zip rs ++ (some v, s) :: γ) H := r2.perm List.perm_middle.symm
          have ra := r3.escs hl h1
          have r4 := r3.popN
          obtain ⟨p, ep, cp⟩ := own_ref r4.rel so
          cases ep
          have hB : ¬ Nn Γ (σ.zip (δ.set i .no) ++ (some (V.ref p), s) :: γ) p := fun z => z.2 ⟨_, List.mem_append_right _ List.mem_cons_self, so, rfl⟩
          exact hi _ H p s.dat vs ds o c Q hB cp ra h2 fun ob w hc hr => h w _ (r4.write hv (List.getElem?_eq_some_iff.mp h0).1 so hc hr)
      · rw [if_neg so] at h; exact False.elim h
theorem d_mut {e : Expr} {es : List Expr} {x name : Str} {px : Pos} {ms : M (List Sl)} {g : PyData → List PyData → Option (PyData × PyData)} {apos cpos : Pos} {T id : String} {r : V → List V → Hp → VK → Prop} {i : Nat} (pa : PlainAttrs T) (slot : Slot T name id) (hty : typeOf (.builtin id) = pure (.type "method_descriptor")) (hm : MtR X id r)
    (hi : ImplMut X.K r g) (ho : PE X (.Name x px) (tV X.K W (ownM i))) (ha : PA X (e :: es) (tAs X.K W ms))
    (hbase : attributeBase (.Name x px) name X.env (eval (.Name x px) X.env) = eval (.Name x px) X.env := by rfl)
    (hfew : ((backTo cpos (starEach (e :: es) X.env)).all (fun x => !x.1) && (backToKw cpos (keywordEach [] X.env)).all (fun x => x.1.isSome)
      && decide ((e :: es).length + ([] : List Keyword).length + (if ([] : List Keyword).isEmpty then 0 else 1) < 30)) = true := by rfl)
    (hline : (apos.endLine == cpos.line) = true := by rfl) (hs : starEach (e :: es) X.env = (false, eval e X.env) :: starEach es X.env := by rfl) (hplain : (backTo cpos (starEach es X.env)).any (·.1) = false := by rfl) :
    PE X (.Call (.Attribute (.Name x px) name apos) (e :: es) [] cpos) (tV X.K W (mutM T i g ms)) :=
  PE.imp (pe_bm pa slot hty hm ho ha hbase hfew hline hs hplain) fun σ H Q ⟨Γ, δ, γ, r0, p⟩ => ⟨Γ, δ, γ, r0, by
    have p0 := Post.bind p
    clear p
    cases q : ownM i δ with
    | no => rw [q] at p0; exact p0
    | er ex δ1 => rw [q] at p0; exact p0
    | ok s δ1 =>
      rw [q] at p0
      obtain ⟨rfl, rfl⟩ := own_res q
      intro v H1 r1
      have hs' : ∃ s, δ1[i]? = some s ∧ s.own = true := by
        unfold ownM at q
        cases z : δ1[i]? with
        | none => simp only [z] at q; cases q
        | some s =>
          cases s with
          | ow d => exact ⟨_, rfl, rfl⟩
          | io k d => exact ⟨_, rfl, rfl⟩
          | _ => simp only [z] at q; cases q
      obtain ⟨ty, p2⟩ := chkC_ok r1 List.mem_cons_self hs' (Post.bind p0)
      refine ⟨ty, Γ, δ1, (some v, .al i) :: γ, r1, ((Post.bind p2).ext [(some v, .al i)]).imp fun rs δ2 p3 vs H2 hl r2 => ?_⟩
      exact run_change hi r2 hl p3⟩
theorem d_mut0 {x name : Str} {px : Pos} {g : PyData → List PyData → Option (PyData × PyData)} {apos cpos : Pos} {T id : String} {r : V → List V → Hp → VK → Prop} {i : Nat} (pa : PlainAttrs T) (slot : Slot T name id) (hty : typeOf (.builtin id) = pure (.type "method_descriptor")) (hm : MtR X id r)
    (hi : ImplMut X.K r g) (ho : PE X (.Name x px) (tV X.K W (ownM i)))
    (hbase : attributeBase (.Name x px) name X.env (eval (.Name x px) X.env) = eval (.Name x px) X.env := by rfl) (hline : (apos.endLine == cpos.line) = true := by rfl) :
    PE X (.Call (.Attribute (.Name x px) name apos) [] [] cpos) (tV X.K W (mutM T i g mNil)) :=
  PE.imp (pe_bm0 pa slot hty hm ho hbase hline) fun σ H Q ⟨Γ, δ, γ, r0, p⟩ => ⟨Γ, δ, γ, r0, by
    have p0 := Post.bind p
    clear p
    cases q : ownM i δ with
    | no => rw [q] at p0; exact p0
    | er ex δ1 => rw [q] at p0; exact p0
    | ok s δ1 =>
      rw [q] at p0
      obtain ⟨rfl, rfl⟩ := own_res q
      intro v H1 r1
      have hs' : ∃ s, δ1[i]? = some s ∧ s.own = true := by
        unfold ownM at q
        cases z : δ1[i]? with
        | none => simp only [z] at q; cases q
        | some s =>
          cases s with
          | ow d => exact ⟨_, rfl, rfl⟩
          | io k d => exact ⟨_, rfl, rfl⟩
          | _ => simp only [z] at q; cases q
      obtain ⟨ty, p2⟩ := chkC_ok r1 List.mem_cons_self hs' (Post.bind p0)
      exact ⟨ty, run_change hi (vs := []) (rs := []) r1 rfl (show Post X.K W Γ σ γ (changeM i g [] δ1) _ from p2)⟩⟩
/-- x[i] = v -/
def subG (i : Nat) (mi : M Sl) (g : PyData → PyData → PyData → Option PyData) : GM := fun s δ => match esc s, ownM i δ with
  | some d, .ok _ δ1 => match mi δ1 with
    | .ok si δ2 => match datS δ2 si, δ2[i]? with
      | some di, some c => if c.own = true then match g c.dat di d with
          | some c' => some (δ2.set i (c.setD c'))
          | none => none
        else none
      | _, _ => none
    | _ => none
  | _, _ => none
theorem dg_sub {x : Str} {px : Pos} {ix : Expr} {i : Nat} {mi : M Sl} {t : TSet} {g : PyData → PyData → PyData → Option PyData} (ho : PE X (.Name x px) (tV X.K (fun _ _ _ => False) (ownM i))) (hi : PE X ix (tV X.K (fun _ _ _ => False) mi)) (hs : PSet X t) (him : ImplSet X.K t g)
    (ha : ∀ v, assign (.Subscript (.Name x px) ix pos) X.env v = (do
      let ov ← holding [v] (eval (.Name x px) X.env)
      let iv ← holding [v, ov] (eval ix X.env)
      standAt pos
      holding [v, ov, iv] (setItem ov iv v)
      release [v, ov, iv] []) := by intro _; rfl) : PG X (.Subscript (.Name x px) ix pos) (tG X.K [] (subG i mi g)) := by
  refine ⟨fun pins s σ H v u Q I rv ⟨Γ, δ, γ, sl, r, na, p⟩ => (pg_sub ho hi hs ha).run pins s σ H v u Q I rv ?_⟩
  unfold subG at p
  cases h1 : esc sl with
  | none => simp only [h1] at p
  | some d =>
    cases h2 : ownM i δ with
    | no => simp only [h1, h2] at p
    | er e δ1 => simp only [h1, h2] at p
    | ok so δ1 =>
      obtain ⟨rfl, rfl⟩ := own_res h2
      simp only [h1, h2] at p
      cases h3 : mi δ1 with
      | no => simp only [h3] at p
      | er e δ2 => simp only [h3] at p
      | ok si δ2 =>
        simp only [h3] at p
        cases h4 : datS δ2 si with
        | none => simp only [h4] at p
        | some di =>
          cases h5 : δ2[i]? with
          | none => simp only [h4, h5] at p
          | some c =>
            simp only [h4, h5] at p
            by_cases h6 : c.own = true
            · rw [if_pos h6] at p
              cases h7 : g c.dat di d with
              | none => simp only [h7] at p
              | some c' =>
                simp only [h7] at p
                have r' := r.esc h1
                refine ⟨Γ, δ1, _, r', by rw [h2]; exact fun o H1 r1 => ⟨Γ, δ1, _, r1, by
                  rw [h3]
                  intro w H2 r2
                  -- ghosts: index, alias, value
                  have hv := r2.alias (v := o) (i := i) (List.mem_cons_of_mem _ List.mem_cons_self)
                  obtain ⟨o', ho', r3⟩ := r2.take h5
                  rw [hv] at ho'
                  cases ho'
                  have r4 : RS X.K Γ σ (δ2.set i .no) ((some o, c) :: (some w, si) :: (some o, .al i) :: (some v, .sh d) :: γ) H2 := r3
                  obtain ⟨p0, ep, cp⟩ := own_ref r4.rel h6
                  cases ep
                  have hB : ¬ Nn Γ (σ.zip (δ2.set i .no) ++ (some (V.ref p0), c) :: (some w, si) :: (some (V.ref p0), .al i) :: (some v, .sh d) :: γ) p0 := fun z => z.2 ⟨_, List.mem_append_right _ List.mem_cons_self, h6, rfl⟩
                  have hsi : si ≠ .al i ∨ si = .al i := by
                    cases si with
                    | al j => by_cases z : j = i
                              · exact .inr (by rw [z])
                              · exact .inl (fun q => by cases q; exact z rfl)
                    | _ => exact .inl (fun q => by cases q)
                  have htop : Top X.K (Nn Γ (σ.zip (δ2.set i .no) ++ (some (V.ref p0), c) :: (some w, si) :: (some (V.ref p0), .al i) :: (some v, .sh d) :: γ)) H2 w di := by
                    rcases hsi with hne | he
                    · refine r4.top (s := si) (List.mem_cons_of_mem _ List.mem_cons_self) ?_
                      cases si with
                      | al j =>
                        have hj : i ≠ j := fun z => hne (by rw [z])
                        show (match (δ2.set i Sl.no)[j]? with
                          | some (.sh d) => some d
                          | some (.ow d) => some d
                          | some (.io _ d) => some d
                          | _ => none) = some di
                        rw [List.getElem?_set_ne hj]
                        exact h4
                      | _ => exact h4
                    · subst he
                      have hw := r2.alias (v := w) (i := i) List.mem_cons_self
                      rw [hv] at hw
                      cases hw
                      have e1 : di = c.dat := by
                        have h4' : (match δ2[i]? with
                          | some (.sh d) => some d
                          | some (.ow d) => some d
                          | some (.io _ d) => some d
                          | _ => none) = some di := h4
                        rw [h5] at h4'
                        cases c with
                        | ow d => cases h4'; rfl
                        | io k d => cases h4'; rfl
                        | _ => cases h6
                      rw [e1]
                      exact .own cp
                  have hval := r4.get (v := v) (d := d) (List.mem_append_right _ (List.mem_cons_of_mem _ (List.mem_cons_of_mem _ (List.mem_cons_of_mem _ List.mem_cons_self))))
                  refine him _ H2 p0 c.dat di d c' w v _ hB cp htop hval h7 fun ob hc => ?_
                  have r5 := r4.write (v := .non) (o := .none) hv (List.getElem?_eq_some_iff.mp h5).1 h6 hc .non
                  exact p σ _ .refl (r5.sublist (List.sublist_append_right [_, _, _, _] γ))⟩⟩
            · rw [if_neg h6] at p; exact False.elim p

/-! ### ranges -/
def rng1M (ms : M (List Sl)) : M (List PyData) := ms >>= fun rs => fun δ => match rs with
  | [.sh (.int j)] => if j ≤ 1000000 ∧ -1000000 ≤ j then .ok ((List.range j.toNat).map fun (k : Nat) => PyData.int (0 + (k : Int))) δ else .no
  | _ => .no
def rng2M (ms : M (List Sl)) : M (List PyData) := ms >>= fun rs => fun δ => match rs with
  | [.sh (.int i), .sh (.int j)] => if (j ≤ 1000000 ∧ -1000000 ≤ j) ∧ i ≤ 1000000 ∧ -1000000 ≤ i then .ok ((List.range (j - i).toNat).map fun (k : Nat) => PyData.int (i + (k : Int))) δ else .no
  | _ => .no
theorem yl_rng {K : PySem.W.Frag} {lo : Int} {n : Nat} : Yl K (Itr lo n) [] ((List.range n).map fun (k : Nat) => PyData.int (lo + (k : Int))) := by
  intro Γ σ δ γ H r i
  have hl : ((List.range n).map fun (k : Nat) => PyData.int (lo + (k : Int))).length = n := by simp
  rw [hl]
  refine ⟨fun h => h, fun h => h, fun x H' d hy hd => ?_⟩
  obtain ⟨rfl, rfl⟩ := hy
  rw [List.getElem?_map] at hd
  cases q : (List.range n)[i]? with
  | none => rw [q] at hd; cases hd
  | some k =>
    rw [q] at hd
    cases hd
    have : k = i := by
      rw [List.getElem?_range] at q
      · exact (Option.some.inj q).symm
      · have := (List.getElem?_eq_some_iff.mp q).1; simpa using this
    subst this
    exact ⟨r.len, r.rel.push rfl ⟨_, rfl, .int _⟩⟩
theorem na_nil : NoAl [] := fun _ m => nomatch m
theorem int_at {K : PySem.W.Frag} {Γ : Gm} {σ : L2.St} {δ : List Sl} {γ : List Ent} {H : Hp} {v : V} {i : Int} (r : RS K Γ σ δ γ H) (m : (some v, Sl.sh (.int i)) ∈ σ.zip δ ++ γ) : v = .int i := by
  have q := r.get m
  cases q
  rfl
theorem di_range1 {tg a : Expr} {ms : M (List Sl)} {p pos : Pos} (hg : Gl X "range") (hm : X.mg "range" = none) (ha : PA X [a] (tAs X.K W ms)) (hs : starEach [a] X.env = [(false, eval a X.env)] := by rfl) : PI X tg (.Call (.Name "range" p) [a] [] pos) (tI X.K W (rng1M ms)) :=
  PI.imp (pi_range1 hg hm ha hs) fun σ H R ⟨Γ, δ, γ, r, p⟩ => ⟨Γ, δ, γ, r, (Post.bind p).imp fun rs δ1 p1 vs H1 hl r1 => by
    split at p1
    · rename_i j
      by_cases hz : j ≤ 1000000 ∧ -1000000 ≤ j
      · rw [if_pos hz] at p1
        match vs, hl with
        | [v], _ =>
          have e := int_at r1 (v := v) (i := j) (List.mem_append_right _ List.mem_cons_self)
          subst e
          exact ⟨j, rfl, by omega, by omega, p1 _ H1 [] na_nil r1.pop yl_rng⟩
      · rw [if_neg hz] at p1; exact False.elim p1
    · exact False.elim p1⟩
theorem di_range2 {tg a b : Expr} {ms : M (List Sl)} {p pos : Pos} (hg : Gl X "range") (hm : X.mg "range" = none) (ha : PA X [a, b] (tAs X.K W ms)) (hs : starEach [a, b] X.env = [(false, eval a X.env), (false, eval b X.env)] := by rfl) (hs2 : starEach [b] X.env = [(false, eval b X.env)] := by rfl) :
    PI X tg (.Call (.Name "range" p) [a, b] [] pos) (tI X.K W (rng2M ms)) :=
  PI.imp (pi_range2 hg hm ha hs hs2) fun σ H R ⟨Γ, δ, γ, r, p⟩ => ⟨Γ, δ, γ, r, (Post.bind p).imp fun rs δ1 p1 vs H1 hl r1 => by
    split at p1
    · rename_i i j
      by_cases hz : (j ≤ 1000000 ∧ -1000000 ≤ j) ∧ i ≤ 1000000 ∧ -1000000 ≤ i
      · rw [if_pos hz] at p1
        match vs, hl with
        | [v, w], _ =>
          have e := int_at r1 (v := v) (i := i) (List.mem_append_right _ List.mem_cons_self)
          have e2 := int_at r1 (v := w) (i := j) (List.mem_append_right _ (List.mem_cons_of_mem _ List.mem_cons_self))
          subst e
          subst e2
          exact ⟨i, j, rfl, by omega, p1 _ H1 [] na_nil r1.pop.pop yl_rng⟩
      · rw [if_neg hz] at p1; exact False.elim p1
    · exact False.elim p1⟩
end

/-! ### comprehensions -/
def wipeD (δ : List Sl) : List Nat → List Sl
  | [] => δ
  | v :: vs => (wipeD δ vs).set v .no
theorem wipeD_len (δ : List Sl) : ∀ vs : List Nat, (wipeD δ vs).length = δ.length
  | [] => rfl
  | v :: vs => by unfold wipeD; rw [List.length_set, wipeD_len δ vs]
/-- a slot forgotten -/
theorem RS.forget {K : PySem.W.Frag} {Γ : Gm} {σ : L2.St} {δ : List Sl} {γ : List Ent} {H : Hp} (r : RS K Γ σ δ γ H) (na : NoAl γ) (i : Nat) (o : Option V) : RS K Γ (σ.set i o) (δ.set i .no) γ H := by
  refine ⟨⟨by rw [List.length_set, List.length_set]; exact r.len.eq, (r.len.set rfl).na⟩, ?_⟩
  by_cases hl : i < δ.length
  · rw [← zip_set]
    have r2 : Rel K Γ (σ.zip δ) ((o, .no) :: γ) H := r.rel.push rfl True.intro
    refine r2.store (by rw [List.length_zip]; have := r.len.eq; omega) rfl fun x m => ?_
    rcases List.mem_append.mp m with m | m
    · exact r.len.na x.2 (List.of_mem_zip m).2
    · exact na x m
  · rw [List.set_eq_of_length_le (by have := r.len.eq; omega), List.set_eq_of_length_le (by omega)]
    exact r.rel
theorem RS.wipe {K : PySem.W.Frag} {Γ : Gm} {σ : L2.St} {δ : List Sl} {γ : List Ent} {H : Hp} (r : RS K Γ σ δ γ H) (na : NoAl γ) : ∀ vs : List Nat, RS K Γ (wipe σ vs) (wipeD δ vs) γ H
  | [] => r
  | v :: vs => (RS.wipe r na vs).forget na v none
/-- .. and back: what is forgotten may be anything -/
theorem unwipe {σ : L2.St} {δ : List Sl} : ∀ (vs : List Nat), σ.length = δ.length → ((wipe σ vs).zip (wipeD δ vs)).length = (σ.zip (wipeD δ vs)).length := by
  intro vs h
  rw [List.length_zip, List.length_zip, wipe_length]
theorem RS.unset {K : PySem.W.Frag} {Γ : Gm} {σ : L2.St} {δ : List Sl} {γ : List Ent} {H : Hp} {v : Nat} {o : Option V} (r : RS K Γ (σ.set v o) (δ.set v .no) γ H) (na : NoAl γ) : RS K Γ σ (δ.set v .no) γ H := by
  by_cases hl : v < σ.length
  · have q := r.forget na v σ[v]
    rw [List.set_set, List.set_set, List.set_getElem_self] at q
    exact q
  · rw [List.set_eq_of_length_le (by omega)] at r
    exact r
theorem RS.unwipe {K : PySem.W.Frag} {Γ : Gm} {γ : List Ent} {H : Hp} (na : NoAl γ) : ∀ (vs : List Nat) {σ : L2.St} {δ : List Sl}, RS K Γ (L2.wipe σ vs) (wipeD δ vs) γ H → RS K Γ σ (wipeD δ vs) γ H
  | [], _, _, r => r
  | v :: vs, σ, δ, r => by
    have r1 : RS K Γ (L2.wipe σ vs) (wipeD δ (v :: vs)) γ H := RS.unset (v := v) (o := none) (δ := wipeD δ vs) r na
    -- the slot v stays forgotten: the others by the same way
    have key : ∀ (us : List Nat) (τ : L2.St) (ε : List Sl), RS K Γ (L2.wipe τ us) ε γ H → (∀ u ∈ us, ε[u]? = some .no ∨ ε[u]? = none) → RS K Γ τ ε γ H := by
      intro us
      induction us with
      | nil => intro τ ε h _; exact h
      | cons u us ih =>
        intro τ ε h hu
        have e : ε = ε.set u .no := by
          rcases hu u List.mem_cons_self with q | q
          · obtain ⟨h1, h2⟩ := List.getElem?_eq_some_iff.mp q
            rw [← h2, List.set_getElem_self]
          · rw [List.set_eq_of_length_le (List.getElem?_eq_none_iff.mp q)]
        refine ih τ ε ?_ fun w m => hu w (List.mem_cons_of_mem _ m)
        rw [e] at h ⊢
        exact RS.unset (v := u) (o := none) (δ := ε) h na
    refine key vs σ _ r1 fun u m => ?_
    have : ∀ (us : List Nat) (ε : List Sl), u ∈ us → (wipeD ε us)[u]? = some .no ∨ (wipeD ε us)[u]? = none := by
      intro us
      induction us with
      | nil => intro _ h; cases h
      | cons w us ih =>
        intro ε h
        unfold wipeD
        by_cases hw : w = u
        · subst hw
          by_cases hl : w < (wipeD ε us).length
          · exact .inl (by rw [List.getElem?_set_self hl])
          · exact .inr (by rw [List.getElem?_eq_none (by rw [List.length_set]; omega)])
        · rw [List.getElem?_set_ne hw]
          rcases List.mem_cons.mp h with h | h
          · exact absurd h.symm hw
          · exact ih ε h
    unfold wipeD
    by_cases hw : v = u
    · subst hw
      by_cases hl : v < (wipeD δ vs).length
      · exact .inl (by rw [List.getElem?_set_self hl])
      · exact .inr (by rw [List.getElem?_eq_none (by rw [List.length_set]; omega)])
    · rw [List.getElem?_set_ne hw]
      exact this vs δ m
/-- the turns of a comprehension; a test -/
def yesM : M Bool := fun δ => .ok true δ
def lcL (g : GM) (t : M Bool) (e : M Sl) (vs : List Nat) : List PyData → List PyData → List Sl → Res (List PyData)
  | [], acc, δ => .ok acc δ
  | d :: r, acc, δ => match g (.sh d) δ with
    | none => .no
    | some δ1 => match t δ1 with
      | .ok true δ2 => match e δ2 with
        | .ok s δ3 => match esc s with
          | some y => if acc.length < 1000000 then lcL g t e vs r (acc ++ [y]) (wipeD δ3 vs) else .no
          | none => .no
        | _ => .no
      | .ok false δ2 => lcL g t e vs r acc (wipeD δ2 vs)
      | _ => .no
def lcM (mi : M (List PyData)) (g : GM) (t : M Bool) (e : M Sl) (vs : List Nat) : M Sl := mi >>= fun items => fun δ => match lcL g t e vs items [] (wipeD δ vs) with
  | .ok acc δ' => .ok (.ow (.list acc)) δ'
  | _ => .no
end DL

set_option Elab.async false
set_option linter.all false
set_option maxRecDepth 100000
set_option maxHeartbeats 1000000
namespace DL
open PySem PySem.Spec PyProof.Rows L2

section
variable {X : Cx} {pos : Pos}
theorem snd_set {K : PySem.W.Frag} {Γ : Gm} {σ : L2.St} {δ : List Sl} {γ : List Ent} {H : Hp} {D : Addr} {acc : List PyData} {xs : List V} {y : V} {d : PyData}
    (r : RS K Γ σ δ ((some y, .sh d) :: (some (.ref D), .ow (.list acc)) :: γ) H) : ∃ xs, H D = some (.lst xs) ∧ xs.length = acc.length ∧ RS K Γ σ δ ((some (.ref D), .ow (.list (acc ++ [d]))) :: γ) (upd H D (.lst (xs ++ [y]))) := by
  have r1 : RS K Γ σ δ ((some (.ref D), .ow (.list acc)) :: (some y, .sh d) :: γ) H := r.perm (List.Perm.swap _ _ _)
  obtain ⟨p, e, c⟩ := own_ref r1.rel rfl
  cases e
  obtain ⟨xs, hx, ra⟩ := c
  have hy := r1.get (v := y) (d := d) (List.mem_append_right _ (List.mem_cons_of_mem _ List.mem_cons_self))
  have hB : ¬ Nn Γ (σ.zip δ ++ (some (V.ref D), .ow (.list acc)) :: (some y, .sh d) :: γ) D := fun z => z.2 ⟨_, List.mem_append_right _ List.mem_cons_self, rfl, rfl⟩
  have hm : MutD (H D) := by rw [hx]; exact True.intro
  have r2 := r1.rel.write (o := .lst (xs ++ [y])) (d' := .list (acc ++ [d])) (s' := .ow (.list (acc ++ [d]))) rfl (.inl ⟨_, rfl, rfl⟩) ⟨_, upd_same, (ra.updT hB hm).snoc (hy.updT hB hm)⟩
  exact ⟨xs, hx, ra.length, ⟨r.len, r2.sublist ((List.sublist_cons_self _ _).cons_cons _)⟩⟩
abbrev W0 : XW := fun _ _ _ => False
theorem filt_perm {α : Type} (p : α → Bool) : ∀ l : List α, (l.filter p ++ l.filter fun x => !p x).Perm l
  | [] => .refl _
  | x :: r => by
    by_cases h : p x = true
    · have e1 : (x :: r).filter p = x :: r.filter p := by simp [h]
      have e2 : ((x :: r).filter fun x => !p x) = r.filter fun x => !p x := by simp [h]
      rw [e1, e2]
      exact (filt_perm p r).cons x
    · have e1 : (x :: r).filter p = r.filter p := by simp [h]
      have e2 : ((x :: r).filter fun x => !p x) = x :: r.filter fun x => !p x := by simp [h]
      rw [e1, e2]
      exact List.perm_middle.trans ((filt_perm p r).cons x)
theorem RS.addAls {K : PySem.W.Frag} {Γ : Gm} {σ : L2.St} {δ : List Sl} {γ : List Ent} {H : Hp} (r : RS K Γ σ δ γ H) : ∀ (als : List Ent), (∀ e ∈ als, ∃ v i, e = (some v, .al i) ∧ σ[i]? = some (some v)) → RS K Γ σ δ (als ++ γ) H
  | [], _ => r
  | e :: als, h => by
    obtain ⟨v, i, rfl, hi⟩ := h e List.mem_cons_self
    have r1 := RS.addAls r als fun x m => h x (List.mem_cons_of_mem _ m)
    have hl : i < δ.length := by have := (List.getElem?_eq_some_iff.mp hi).1; have := r.len.eq; omega
    exact ⟨r1.len, r1.rel.push rfl ⟨v, δ[i], rfl, List.getElem?_zip_eq_some.mpr ⟨hi, List.getElem?_eq_getElem hl⟩⟩⟩
/-- without the aliases on the way -/
def nal (γ : List Ent) : List Ent := γ.filter fun e => !e.2.isAl
theorem nal_na {γ : List Ent} : NoAl (nal γ) := fun e m => by have := (List.mem_filter.mp m).2; simpa using this
theorem nal_app {γ γ' : List Ent} (h : NoAl γ) : nal (γ ++ γ') = γ ++ nal γ' := by
  unfold nal
  rw [List.filter_append, List.filter_eq_self.mpr fun x m => by rw [h x m] <;> rfl]
theorem RS.nal {K : PySem.W.Frag} {Γ : Gm} {σ : L2.St} {δ : List Sl} {γ : List Ent} {H : Hp} (r : RS K Γ σ δ γ H) : RS K Γ σ δ (DL.nal γ) H := r.sublist List.filter_sublist
theorem RS.back {K : PySem.W.Frag} {Γ : Gm} {σ : L2.St} {δ δ' : List Sl} {γ : List Ent} {H H' : Hp} {e : Ent} (r : RS K Γ σ δ γ H) (r' : RS K Γ σ δ' (e :: DL.nal γ) H') : RS K Γ σ δ' (e :: γ) H' := by
  have r1 := r'.addAls (γ.filter fun e => e.2.isAl) fun x m => by
    obtain ⟨m1, m2⟩ := List.mem_filter.mp m
    obtain ⟨o, s⟩ := x
    cases s with
    | al i =>
      have q := r.rel.each _ (List.mem_append_right _ m1)
      obtain ⟨v, y, e1, e2⟩ := q
      have e1 : o = some v := e1
      subst e1
      exact ⟨v, i, rfl, (List.getElem?_zip_eq_some.mp e2).1⟩
    | _ => cases m2
  exact r1.perm (List.perm_middle.trans ((filt_perm (fun e : Ent => e.2.isAl) γ).cons e))
theorem wipe_get (σ : L2.St) (j : Nat) : ∀ vs : List Nat, (L2.wipe σ vs)[j]? = if j ∈ vs then (if j < σ.length then some none else none) else σ[j]?
  | [] => by simp [L2.wipe]
  | v :: vs => by
    unfold L2.wipe
    by_cases h : v = j
    · subst h
      by_cases hl : v < σ.length
      · rw [List.getElem?_set_self (by rw [wipe_length]; exact hl)]; simp [hl]
      · rw [List.getElem?_eq_none (by rw [List.length_set, wipe_length]; omega)]; simp [hl]
    · rw [List.getElem?_set_ne h, wipe_get σ j vs]
      have e : j ∈ v :: vs ↔ j ∈ vs := by simp [Ne.symm h]
      by_cases q : j ∈ vs
      · rw [if_pos q, if_pos (e.mpr q)]
      · rw [if_neg q, if_neg fun z => q (e.mp z)]
theorem wipe_chg {σ σ' : L2.St} {ts vs : List Nat} (h : Chg ts (L2.wipe σ vs) σ') (hs : ∀ t ∈ ts, t ∈ vs) : L2.wipe σ' vs = L2.wipe σ vs := by
  refine List.ext_getElem? fun j => ?_
  rw [wipe_get, wipe_get]
  have hl : σ'.length = σ.length := h.1.trans (wipe_length _ _)
  by_cases q : j ∈ vs
  · rw [if_pos q, if_pos q, hl]
  · rw [if_neg q, if_neg q, h.2 j fun z => q (hs j z), wipe_get, if_neg q]
theorem Post.conj {α : Type} {K : PySem.W.Frag} {W : XW} {Γ : Gm} {σ : L2.St} {γ : List Ent} {x : Res α} {k : α → List Sl → Prop} (h : ∀ a δ, x = .ok a δ → k a δ) (he : ∃ a δ, x = .ok a δ) : Post K W Γ σ γ x k := by
  obtain ⟨a, δ, e⟩ := he
  rw [e]
  exact h a δ e
/-- the reading of a comprehension -/
theorem lc_read {K : PySem.W.Frag} {W : XW} {mi : M (List PyData)} {g : GM} {t : M Bool} {e : M Sl} {vs ts : List Nat} {σ : L2.St} {H : Hp} {Q : VK} (hts : ∀ t ∈ ts, t ∈ vs) (h : tV K W (lcM mi g t e vs) σ H Q) :
    tLc (tI K W mi) (tG K ts g) (tBo K W0 t) (tV K W0 e) vs σ H Q := by
  obtain ⟨Γ, δ, γ, r, p⟩ := h
  refine ⟨Γ, δ, γ, r, (Post.bind p).imp fun items δ1 p1 J H1 γi nai r1 yl D hD => ?_⟩
  cases q0 : lcL g t e vs items [] (wipeD δ1 vs) with
  | no => simp only [q0] at p1; exact False.elim p1
  | er ex δ2 => simp only [q0] at p1; exact False.elim p1
  | ok accF δF =>
    simp only [q0] at p1
    have r2 := r1.nal
    rw [nal_app nai] at r2
    have r3 := r2.wipe (nai.app nal_na) vs
    have r4 : RS K Γ (L2.wipe σ vs) (wipeD δ1 vs) ((some (.ref D), .ow (.list [])) :: (γi ++ nal γ)) (upd H1 D (.lst [])) := ⟨r3.len, r3.rel.made (same_upd hD) hD ⟨[], upd_same, .nil⟩⟩
    have naD : ∀ acc, NoAl ((some (V.ref D), Sl.ow (.list acc)) :: (γi ++ nal γ)) := fun acc x m => by
      rcases List.mem_cons.mp m with rfl | m
      · rfl
      · exact nai.app nal_na x m
    refine ⟨fun i m H => i + m = items.length ∧ ∃ acc ε, RS K Γ (L2.wipe σ vs) (wipeD ε vs) ((some (.ref D), .ow (.list acc)) :: (γi ++ nal γ)) H ∧ lcL g t e vs (items.drop i) acc (wipeD ε vs) = .ok accF δF, ⟨items.length, by omega, [], δ1, r4, q0⟩, fun i m H2 ⟨em, acc, ε, r5, q5⟩ => ?_⟩
    have r6 : RS K Γ (L2.wipe σ vs) (wipeD ε vs) (γi ++ ((some (.ref D), .ow (.list acc)) :: nal γ)) H2 := r5.perm List.perm_middle.symm
    obtain ⟨y1, y2, y3⟩ := yl Γ _ _ _ H2 r6 i
    by_cases hlt : i < items.length
    · refine .inr ⟨y1 hlt, fun H' => i + 1 + (m - 1) = items.length ∧ ∃ acc ε, RS K Γ (L2.wipe σ vs) (wipeD ε vs) ((some (.ref D), .ow (.list acc)) :: (γi ++ nal γ)) H' ∧ lcL g t e vs (items.drop (i + 1)) acc (wipeD ε vs) = .ok accF δF, fun H' ⟨e1, q⟩ => ⟨m - 1, by omega, e1, q⟩, fun x H3 hy => ?_⟩
      have hd : items[i]? = some items[i] := List.getElem?_eq_getElem hlt
      have r7 := y3 x H3 _ hy hd
      rw [List.drop_eq_getElem_cons hlt] at q5
      unfold lcL at q5
      have r8 : RS K Γ (L2.wipe σ vs) (wipeD ε vs) ((some x, .sh items[i]) :: (some (.ref D), .ow (.list acc)) :: (γi ++ nal γ)) H3 := r7.perm (List.Perm.cons _ List.perm_middle)
      refine ⟨Γ, wipeD ε vs, _, .sh items[i], r8, naD acc, ?_⟩
      cases q1 : g (.sh items[i]) (wipeD ε vs) with
      | none => simp only [q1] at q5; cases q5
      | some δ3 =>
        simp only [q1] at q5
        intro σ3 H4 ch r9
        refine ⟨wipe_chg ch hts, Γ, δ3, _, r9, ?_⟩
        cases q2 : t δ3 with
        | no => simp only [q2] at q5; cases q5
        | er ex δ4 => simp only [q2] at q5; cases q5
        | ok b δ4 =>
          intro H5 r10
          cases b with
          | false =>
            simp only [q2] at q5
            rw [if_neg Bool.false_ne_true]
            have r11 := r10.wipe (naD acc) vs
            rw [wipe_chg ch hts] at r11
            exact ⟨by omega, acc, δ4, r11, q5⟩
          | true =>
            simp only [q2] at q5
            rw [if_pos rfl]
            refine ⟨Γ, δ4, _, r10, ?_⟩
            cases q3 : e δ4 with
            | no => simp only [q3] at q5; cases q5
            | er ex δ5 => simp only [q3] at q5; cases q5
            | ok s δ5 =>
              simp only [q3] at q5
              cases q4 : esc s with
              | none => simp only [q4] at q5; cases q5
              | some y =>
                simp only [q4] at q5
                by_cases hz : acc.length < 1000000
                · rw [if_pos hz] at q5
                  intro v H6 r11
                  obtain ⟨xs, hx, hxl, r12⟩ := snd_set (xs := []) (r11.esc q4)
                  have r13 := r12.wipe (naD (acc ++ [y])) vs
                  rw [wipe_chg ch hts] at r13
                  exact ⟨xs, hx, by have := million; omega, by omega, _, δ5, r13, q5⟩
                · rw [if_neg hz] at q5; cases q5
    · refine .inl ⟨y2 (by omega), ?_⟩
      rw [List.drop_of_length_le (by omega)] at q5
      unfold lcL at q5
      cases q5
      have r7 : RS K Γ (L2.wipe σ vs) (wipeD ε vs) ((some (.ref D), .ow (.list accF)) :: nal γ) H2 := r5.sublist ((List.sublist_append_right _ _).cons_cons _)
      have na2 : NoAl ((some (V.ref D), Sl.ow (.list accF)) :: nal γ) := fun x m => by
        rcases List.mem_cons.mp m with rfl | m
        · rfl
        · exact nal_na x m
      exact p1 _ H2 (r.back (r7.unwipe na2 vs))
theorem dts_nil {W : XW} : PTs X [] (tBo X.K W yesM) := ⟨fun pins s σ H Q I ⟨Γ, δ, γ, r, p⟩ => pts_nil.run pins s σ H Q I (p H r)⟩
theorem dts_one {W : XW} {c : Expr} {t : M Bool} (h : PT X c (tBo X.K W t)) : PTs X [c] (tBo X.K W t) := pts_one h
theorem d_lc {W : XW} {elt tg iter : Expr} {ifs : List Expr} {scope : Scope} {own : List (Str × Nat)} {mi : M (List PyData)} {g : GM} {t : M Bool} {e : M Sl} {ts : List Nat} (hc : X.calm = true) (hN : X.N.Nodup) (hi : PI X tg iter (tI X.K W mi)) (ok : BlkOk X.N X.env.scope scope own) (hts : ∀ t ∈ ts, t ∈ own.map (·.2))
    (hg : ∀ (s : Shared) (H : Hp) (C : Addr) (cl : List (Str × Addr)) (fp : List Addr), PG (X.blk s H scope (compEnvC scope cl C X.env) fp) tg (tG X.K ts g)) (ht : ∀ (s : Shared) (H : Hp) (C : Addr) (cl : List (Str × Addr)) (fp : List Addr), PTs (X.blk s H scope (compEnvC scope cl C X.env) fp) ifs (tBo X.K W0 t))
    (he : ∀ (s : Shared) (H : Hp) (C : Addr) (cl : List (Str × Addr)) (fp : List Addr), PE (X.blk s H scope (compEnvC scope cl C X.env) fp) elt (tV X.K W0 e)) (hs : ∀ x, foldedSetIterable iter X.env x = pure x := by intro _; rfl) :
    PE X (.ListComp elt [⟨tg, iter, ifs, 0⟩] scope pos) (tV X.K W (lcM mi g t e (own.map (·.2)))) := PE.imp (pe_lc hc hN hi ok hg ht he hs) fun σ H Q h => lc_read hts h
theorem ds_setLc {W : XW} {i : Nat} {y : Str} {py : Pos} {elt tg iter : Expr} {ifs : List Expr} {scope : Scope} {own : List (Str × Nat)} {spos : Pos} {mi : M (List PyData)} {g : GM} {t : M Bool} {e : M Sl} {ts : List Nat} (hc : X.calm = true) (hN : X.N.Nodup) (hy : X.N[i]? = some y) (hyl : X.env.scope.names.lookup y = some .local)
    (hsw : swapsWith (.ListComp elt [⟨tg, iter, ifs, 0⟩] scope pos) (some (.Name y py)) spos.line X.env = pure true) (hi : PI X tg iter (tI X.K W mi)) (ok : BlkOk X.N X.env.scope scope own) (hts : ∀ t ∈ ts, t ∈ own.map (·.2))
    (hg : ∀ (s : Shared) (H : Hp) (C : Addr) (cl : List (Str × Addr)) (fp : List Addr), PG (X.blk s H scope (compEnvC scope cl C X.env) fp) tg (tG X.K ts g)) (ht : ∀ (s : Shared) (H : Hp) (C : Addr) (cl : List (Str × Addr)) (fp : List Addr), PTs (X.blk s H scope (compEnvC scope cl C X.env) fp) ifs (tBo X.K W0 t))
    (he : ∀ (s : Shared) (H : Hp) (C : Addr) (cl : List (Str × Addr)) (fp : List Addr), PE (X.blk s H scope (compEnvC scope cl C X.env) fp) elt (tV X.K W0 e)) (hs : ∀ x, foldedSetIterable iter X.env x = pure x := by intro _; rfl) :
    PS X (.Assign [.Name y py] (.ListComp elt [⟨tg, iter, ifs, 0⟩] scope pos) spos) (tS X.K W (setS (lcM mi g t e (own.map (·.2))) (nameG i))) :=
  PS.imp (ps_setLc hc hN hy hyl hsw hi ok hg ht he hs) fun D σ H ⟨Γ, δ, γ, r, na, p⟩ => lc_read hts ⟨Γ, δ, γ, r, (toS_post p).imp fun x δ' p' v H' r' => by
    cases q : nameG i x δ' with
    | none => simp only [q] at p'; exact False.elim p'
    | some δ2 => simp only [q] at p'; exact p' _ H' (r'.store na q)⟩
end

/-! ### defs -/
def startD (n : Nat) (ds : List Sl) : List Sl := ds ++ List.replicate (n - ds.length) .no
def resOf : Sl → Option Sl
  | .sh d => some (.sh d)
  | .ow d => some (.ow d)
  | .raw v => some (.raw v)
  | _ => none
def runP (n : Nat) (m : SM) (ds : List PyData) : FRes := match m (startD n (ds.map .sh)) with
  | .nx _ => .ok (.sh .none) none
  | .rt r _ => match resOf r with
    | some s => .ok s none
    | none => .no
  | .er e _ => .er e
  | _ => .no
def runI (n : Nat) (m : SM) (d0 : PyData) (ds : List PyData) : FRes := match m (startD n (Sl.io 0 d0 :: ds.map Sl.sh)) with
  | .nx δ => match δ[0]? with
    | some (Sl.io _ d) => .ok (.sh .none) (some d)
    | _ => .no
  | .rt r δ => match resOf r, δ[0]? with
    | some s, some (Sl.io _ d) => .ok s (some d)
    | _, _ => .no
  | _ => .no
section
variable {K : PySem.W.Frag} {H : Hp}
theorem zip_start {N : List Str} {vs : List V} {ss : List Sl} (hl : vs.length = ss.length) : (L2.start N vs).zip (startD N.length ss) = (vs.map some).zip ss ++ List.replicate (N.length - vs.length) (none, Sl.no) := by
  unfold L2.start startD
  rw [List.zip_append (by simp [hl]), hl]
  congr 1
  generalize N.length - ss.length = n
  induction n with
  | zero => rfl
  | succ n ih => simp [List.replicate_succ, ih]
theorem rel_start {Γ : Gm} {N : List Str} {vs : List V} {ss : List Sl} (hl : vs.length = ss.length) (hal : ∀ s ∈ ss, s.isAl = false) (h : Rel K Γ ((vs.map some).zip ss) [] H) : RS K Γ (L2.start N vs) (startD N.length ss) [] H := by
  refine ⟨⟨by simp [L2.start, startD, hl], fun s m => ?_⟩, ?_⟩
  · rcases List.mem_append.mp m with m | m
    · exact hal s m
    · rw [List.eq_of_mem_replicate m] <;> rfl
  · rw [zip_start hl]
    generalize N.length - vs.length = n
    have key : ∀ n, Rel K Γ ((vs.map some).zip ss ++ List.replicate n (none, Sl.no)) [] H := by
      intro n
      have own : ∀ a, OwnA ((vs.map some).zip ss ++ List.replicate n (none, Sl.no) ++ []) a → OwnA ((vs.map some).zip ss ++ []) a := fun a ⟨e, m, o, q⟩ => by
        rw [List.append_nil] at m ⊢
        rcases List.mem_append.mp m with m | m
        · exact ⟨e, m, o, q⟩
        · rw [List.eq_of_mem_replicate m] at o; cases o
      refine ⟨h.fresh, h.keep, h.kfr, h.nb, h.tb, h.kio, fun e m => ?_, ?_⟩
      · rw [List.append_nil] at m
        rcases List.mem_append.mp m with m | m
        · refine (h.each e (by rw [List.append_nil]; exact m)).mono (fun a n _ => ⟨n.1, fun z => n.2 (own a z)⟩) (fun _ _ h _ => h) (fun _ _ _ h => h) (fun _ _ _ _ h => h) fun i v x ei hx => ?_
          have := hal e.2 (List.of_mem_zip m).2
          rw [ei] at this; cases this
        · rw [List.eq_of_mem_replicate m]; exact True.intro
      · have h1 := h.dist
        rw [List.append_nil] at h1 ⊢
        rw [List.pairwise_append]
        refine ⟨h1, List.pairwise_replicate.mpr (.inr fun o => by cases o), fun x _ y hy => ?_⟩
        rw [List.eq_of_mem_replicate hy]
        exact fun _ o => by cases o
    exact key n
theorem sh_ents {Γ : Gm} {N : Addr → Prop} : ∀ {vs : List V} {ds : List PyData}, RA K N H vs ds → ∀ e ∈ (vs.map some).zip (ds.map Sl.sh), ∃ v d, e = (some v, .sh d) ∧ R K N H v d
  | [], [], .nil, _, m => nomatch m
  | v :: vs, d :: ds, .cons h r, e, m => by
    rcases List.mem_cons.mp m with rfl | m
    · exact ⟨v, d, rfl, h⟩
    · exact sh_ents (Γ := Γ) r e m
end
section
variable {P : Program} {w : World} {K : PySem.W.Frag} {mg : Str → Option Value} {base : Heap} {x qual : Str} {params : Arguments} {body : List Stmt} {scope : Scope} {dvs : List V} {kws : List (Str × V)} {f : Addr} {fd : FuncData} {cl : Str → Value}
abbrev WE (cl : Str → Value) (E : XK) : XW := fun e _ H => e.val = none ∧ E (cl e.cls) none H
theorem pass_at {X : Cx} {cl : Str → Value} {E : XK} (tk : Takes X fun c d _ H => E c d H) : ∀ σ, PassesAt (L2.CX X.prog X.w) X σ (EW cl (WE cl E) σ) := fun σ pins H s e s' I c =>
  tk e s' (XE.of_call I (fun cls d H' ⟨e, hv, hc, hd, hW⟩ => by subst hc hd; exact hW.2) c)
theorem pass_no {X : Cx} {cl : Str → Value} : ∀ σ, PassesAt (L2.CX X.prog X.w) X σ (EW cl W0 σ) := fun σ pins H s e s' I ⟨a, B, H', cls, d, _, _, _, _, _, _, _, x, hv, hc, hd, hW⟩ => hW.elim
theorem fn_P {N ps : List Str} {k : Nat} {m : SM} {F : List PyData → FRes} (FD : FunD K x qual params body scope [] kws f fd) (S : FnScope N ps scope) (hF : ∀ ds, F ds ≠ .no → ds.length = ps.length) (he : ∀ ds, F ds ≠ .no → F ds = runP N.length m ds)
    (hb : ∀ (cdv : Value) (A : Around) (outer : List Env) (s : Shared) (H : Hp) (E : XK), Room k (A.deeper (envOfC qual scope s.heap.objs.size f cdv)) → PSs (cxOf (L2.CX P w) P w K mg base N qual scope f cdv A outer s H E) body (tS K (WE cl E) m)) :
    FnOk P w K mg base (L2.CX P w) (k + 1) f fd ps (spP K cl F) := by
  have nn : ∀ vs H Q E, spP K cl F vs H Q E → ∃ ds, RA K (fun _ => True) H vs ds ∧ F ds ≠ .no := fun vs H Q E ⟨B, ds, _, ra, h⟩ => ⟨ds, ra.mono (fun _ _ _ => True.intro) (fun _ _ h _ => h) fun _ _ _ h => h, fun z => by rw [z] at h; exact h⟩
  refine FD.ok S (fun vs H Q E h => ?_) fun cdv A outer s H vs Q E hr h => ⟨_, hb cdv A outer s H E hr, ?_⟩
  · obtain ⟨ds, ra, hn⟩ := nn vs H Q E h
    rw [ra.length, hF ds hn]
  · obtain ⟨B, ds, hB, ra, h⟩ := h
    have hn : F ds ≠ .no := fun z => by rw [z] at h; exact h
    have e1 := he ds hn
    have rel : Rel K ⟨H, B, []⟩ ((vs.map some).zip (ds.map Sl.sh)) [] H := by
      have own : ∀ a, ¬ OwnA ((vs.map some).zip (ds.map Sl.sh) ++ []) a := fun a ⟨e, m, o, q⟩ => by
        rw [List.append_nil] at m
        obtain ⟨v, d, rfl, _⟩ := sh_ents (Γ := ⟨H, B, []⟩) ra e m
        cases o
      refine ⟨hB.1, fun a u h _ _ => h, fun a h => h, hB.2.1, hB.2.2, fun a m => (nomatch m), fun e m => ?_, ?_⟩
      · rw [List.append_nil] at m
        obtain ⟨v, d, rfl, r⟩ := sh_ents (Γ := ⟨H, B, []⟩) ra e m
        exact ⟨v, rfl, r.mono (fun a n _ => ⟨n, own a⟩) (fun _ _ h _ => h) fun _ _ _ h => h⟩
      · rw [List.append_nil]
        refine List.pairwise_of_forall_mem_list fun x hx y hy o => ?_
        obtain ⟨v, d, rfl, _⟩ := sh_ents (Γ := ⟨H, B, []⟩) ra x hx
        cases o
    have rs := rel_start (N := N) (by rw [List.length_map]; exact ra.length) (fun s m => by obtain ⟨d, _, rfl⟩ := List.mem_map.mp m; rfl) rel
    have hg : startD N.length (ds.map .sh) = startD N.length (ds.map .sh) := rfl
    refine ⟨_, _, [], rs, (fun _ m => nomatch m), ?_⟩
    have ends : ∀ {σ δ γ H'}, RS K ⟨H, B, []⟩ σ δ γ H' → SameD K H H' := fun r => ⟨fun a u t h => r.rel.keep a u h (fun z => nomatch z) t, r.rel.kfr, r.rel.tb⟩
    rw [e1] at h
    unfold runP at h
    cases q : m (startD N.length (ds.map .sh)) with
    | nx δ => simp only [q] at h; exact fun σ H' r => h .non H' (ends r) .non
    | rt r δ =>
      simp only [q] at h
      cases q2 : resOf r with
      | none => simp only [q2] at h
      | some sr =>
        simp only [q2] at h
        intro σ v H' r'
        refine h v H' (ends r') ?_
        cases r with
        | sh d =>
          cases q2
          exact (r'.get (List.mem_append_right _ List.mem_cons_self)).mono (fun a n _ => n.1) (fun _ _ h _ => h) fun _ _ _ h => h
        | ow d =>
          cases q2
          obtain ⟨p, e, h0, hBp, c⟩ := r'.rel.each _ (List.mem_append_right _ List.mem_cons_self)
          cases e
          exact ⟨p, rfl, h0, c.mono (fun a n _ => ⟨n.1, fun z => n.2 (z ▸ ⟨_, List.mem_append_right _ List.mem_cons_self, rfl, rfl⟩)⟩) (fun _ _ h _ => h) (fun _ _ _ h => h) fun _ h => h⟩
        | raw y =>
          cases q2
          have e := r'.rel.each _ (List.mem_append_right _ List.mem_cons_self)
          exact Option.some.inj e
        | _ => cases q2
    | bk δ => simp only [q] at h
    | ct δ => simp only [q] at h
    | er e δ => simp only [q] at h; exact fun σ H' r => ⟨h.1, h.2 H' (ends r)⟩
    | no => simp only [q] at h
end
end DL

set_option Elab.async false
set_option linter.all false
set_option maxRecDepth 100000
set_option maxHeartbeats 1000000
namespace DL
open PySem PySem.Spec PyProof.Rows L2

section
variable {K : PySem.W.Frag} {N : Addr → Prop} {H : Hp}
theorem Top.int {v : V} {i : Int} (h : Top K N H v (.int i)) : v = .int i := by
  cases h with
  | val r => cases r; rfl
  | own c => exact c.elim
theorem Top.str {v : V} {x : Str} (h : Top K N H v (.str x)) : v = .str x := by
  cases h with
  | val r => cases r; rfl
  | own c => exact c.elim
theorem Top.bl {v : V} {b : Bool} (h : Top K N H v (.bool b)) : v = .bl b := by
  cases h with
  | val r => cases r; rfl
  | own c => exact c.elim
theorem Top.non {v : V} (h : Top K N H v .none) : v = .non := by
  cases h with
  | val r => cases r; rfl
  | own c => exact c.elim
theorem Top.list {v : V} {ds : List PyData} (h : Top K N H v (.list ds)) : ∃ a xs, v = .ref a ∧ LL K H a xs ∧ RA K N H xs ds := by
  cases h with
  | val r => exact r.ll
  | own c => obtain ⟨xs, e, r⟩ := c; exact ⟨_, xs, rfl, .inl (.inl e), r⟩
theorem Top.tup {v : V} {ds : List PyData} (h : Top K N H v (.tuple ds)) : ∃ a xs, v = .ref a ∧ SqT K H a xs ∧ RA K N H xs ds := by
  cases h with
  | val r => exact r.sqt
  | own c => exact c.elim
theorem Top.tupR {v : V} {ds : List PyData} (h : Top K N H v (.tuple ds)) : R K N H v (.tuple ds) := by
  cases h with
  | val r => exact r
  | own c => exact c.elim
theorem TopA.one {vs : List V} {d : PyData} (h : TopA K N H vs [d]) : ∃ v, vs = [v] ∧ Top K N H v d := by
  cases h with | cons h r => cases r; exact ⟨_, rfl, h⟩
theorem TopA.two {vs : List V} {d e : PyData} (h : TopA K N H vs [d, e]) : ∃ v w, vs = [v, w] ∧ Top K N H v d ∧ Top K N H w e := by
  cases h with | cons h r => obtain ⟨w, rfl, h2⟩ := r.one; exact ⟨_, _, rfl, h, h2⟩
theorem TopA.three {vs : List V} {d e f : PyData} (h : TopA K N H vs [d, e, f]) : ∃ v w x, vs = [v, w, x] ∧ Top K N H v d ∧ Top K N H w e ∧ Top K N H x f := by
  cases h with | cons h r => obtain ⟨w, x, rfl, h2, h3⟩ := r.two; exact ⟨_, _, _, rfl, h, h2, h3⟩
theorem R.old {v : V} {d : PyData} {H' : Hp} (h : R K N H v d) (s : Same H H') : R K (fun a => N a ∨ H a = none) H' v d := h.mono (fun _ n _ => .inl n) (fun _ _ h _ => s _ _ h) fun _ _ _ h => s _ _ h
theorem RA.old {v : List V} {d : List PyData} {H' : Hp} (h : RA K N H v d) (s : Same H H') : RA K (fun a => N a ∨ H a = none) H' v d := h.mono (fun _ n _ => .inl n) (fun _ _ h _ => s _ _ h) fun _ _ _ h => s _ _ h
theorem RA.new {v : List V} {d : List PyData} {H' : Hp} (h : RA K N H v d) (s : Same H H') : RA K (fun a => N a ∧ H a ≠ none) H' v d := h.mono (fun _ n q => ⟨n, q⟩) (fun _ _ h _ => s _ _ h) fun _ _ _ h => s _ _ h
/-- lists of one kind -/
def ints? : List PyData → Option (List Int)
  | [] => some []
  | .int i :: r => (ints? r).map (i :: ·)
  | _ => none
def strs? : List PyData → Option (List Str)
  | [] => some []
  | .str i :: r => (strs? r).map (i :: ·)
  | _ => none
def bls? : List PyData → Option (List Bool)
  | [] => some []
  | .bool i :: r => (bls? r).map (i :: ·)
  | _ => none
theorem ints_of : ∀ (l : List Int), ints? (l.map .int) = some l
  | [] => rfl
  | i :: r => by simp [ints?, ints_of r]
theorem strs_of : ∀ (l : List Str), strs? (l.map .str) = some l
  | [] => rfl
  | i :: r => by simp [strs?, strs_of r]
theorem bls_of : ∀ (l : List Bool), bls? (l.map .bool) = some l
  | [] => rfl
  | i :: r => by simp [bls?, bls_of r]
theorem ints_ra : ∀ {ds : List PyData} {vs : List V} {l : List Int}, ints? ds = some l → RA K N H vs ds → vs = l.map V.int
  | [], _, _, h, r => by cases h; cases r; rfl
  | d :: ds, _, l, h, r => by
    cases r with
    | cons h1 h2 =>
      cases d with
      | int i =>
        simp only [ints?, Option.map_eq_some_iff] at h
        obtain ⟨l', e, rfl⟩ := h
        cases h1
        rw [ints_ra e h2]
        rfl
      | _ => cases h
theorem strs_ra : ∀ {ds : List PyData} {vs : List V} {l : List Str}, strs? ds = some l → RA K N H vs ds → vs = l.map V.str
  | [], _, _, h, r => by cases h; cases r; rfl
  | d :: ds, _, l, h, r => by
    cases r with
    | cons h1 h2 =>
      cases d with
      | str i =>
        simp only [strs?, Option.map_eq_some_iff] at h
        obtain ⟨l', e, rfl⟩ := h
        cases h1
        rw [strs_ra e h2]
        rfl
      | _ => cases h
theorem bls_ra : ∀ {ds : List PyData} {vs : List V} {l : List Bool}, bls? ds = some l → RA K N H vs ds → vs = l.map V.bl
  | [], _, _, h, r => by cases h; cases r; rfl
  | d :: ds, _, l, h, r => by
    cases r with
    | cons h1 h2 =>
      cases d with
      | bool i =>
        simp only [bls?, Option.map_eq_some_iff] at h
        obtain ⟨l', e, rfl⟩ := h
        cases h1
        rw [bls_ra e h2]
        rfl
      | _ => cases h
theorem ra_ints : ∀ (l : List Int), RA K N H (l.map V.int) (l.map .int)
  | [] => .nil
  | i :: r => .cons (.int i) (ra_ints r)
theorem ra_strs : ∀ (l : List Str), RA K N H (l.map V.str) (l.map .str)
  | [] => .nil
  | i :: r => .cons (.str i) (ra_strs r)
end

abbrev L2r (r : R2) : List V → Hp → VK → Prop := fun vs => match vs with
  | [x, y] => r x y
  | _ => fun _ _ => False
abbrev L1r (r : V → Hp → VK → Prop) : List V → Hp → VK → Prop := fun vs => match vs with
  | [x] => r x
  | _ => fun _ _ => False
abbrev Lmr (r : V → List V → Hp → VK → Prop) : List V → Hp → VK → Prop := fun vs => match vs with
  | x :: xs => r x xs
  | _ => fun _ _ => False

section
variable {X : Cx}
/-- xs + ys, lists that may be read -/
def rCatR (K : PySem.W.Frag) : R2 := fun x y H Q => ∃ l b xs zs, x = .ref l ∧ y = .ref b ∧ LL K H l xs ∧ LL K H b zs ∧ xs.length + zs.length ≤ sizeLine ∧ ∀ p, H p = none → Q (.ref p) (upd H p (.lst (xs ++ zs)))
theorem op_catR : OpR X (binaryOp .Add) (rCatR X.K) := by
  intro pins s σ H x y v u Q I rx ry h
  obtain ⟨l, b, xs, zs, rfl, rfl, hH, hB, hz, q⟩ := h
  cases rx
  cases ry
  obtain ⟨its, n, r, z, e⟩ := hH.at I
  obtain ⟨its2, n2, r2, z2, e2⟩ := hB.at I
  have hl := r.length
  have hl2 := r2.length
  refine PySem.P.add_list e e2 ?_ (by rw [List.size_toArray, List.size_toArray]; omega)
  have ea : its.toArray ++ its2.toArray = (its ++ its2).toArray := by simp
  rw [ea]
  exact ⟨.ref _, _, I.lnew (t' := s.toks) (r.append r2) (by rw [List.length_append]; omega), rfl, q _ I.fresh⟩
def rAddA (K : PySem.W.Frag) : R2 := fun x y H Q => ((rI0 (fun i j => .int (i + j)) x y H Q ∨ ∃ i j, x = .str i ∧ y = .str j ∧ i.length + j.length ≤ sizeLine ∧ Q (.str (i ++ j)) H) ∨ rCatR K x y H Q) ∨ (rCatA K x y H Q ∨ rCatX K x y H Q)
theorem op_addA : OpR X (binaryOp .Add) (rAddA X.K) := ((op_add.or op_add_str).or op_catR).or (op_catA.or op_catX)
def gAdd : List PyData → Option Out
  | [.int i, .int j] => some (.sh (.int (i + j)))
  | [.str i, .str j] => if i.length + j.length ≤ 1000000 then some (.sh (.str (i ++ j))) else none
  | [.list i, .list j] => if i.length + j.length ≤ 1000000 then some (.nw (.list (i ++ j))) else none
  | [.tuple i, .tuple j] => if i.length + j.length ≤ 1000000 then some (.sh (.tuple (i ++ j))) else none
  | _ => none
theorem i_add {K : PySem.W.Frag} : Impl K (L2r (rAddA K)) gAdd := by
  intro N H vs ds o Q h g q
  unfold gAdd at g
  split at g
  · obtain ⟨v, w, rfl, h1, h2⟩ := h.two
    cases g
    exact .inl (.inl (.inl ⟨_, _, h1.int, h2.int, q H _ (.refl _) (.int _)⟩))
  · obtain ⟨v, w, rfl, h1, h2⟩ := h.two
    split at g
    · cases g
      rename_i hz
      have := million
      exact .inl (.inl (.inr ⟨_, _, h1.str, h2.str, by omega, q H _ (.refl _) (.str _)⟩))
    · cases g
  · obtain ⟨v, w, rfl, h1, h2⟩ := h.two
    obtain ⟨a, xs, rfl, e1, r1⟩ := h1.list
    obtain ⟨b, ys, rfl, e2, r2⟩ := h2.list
    split at g
    · cases g
      rename_i hz
      have := million
      have l1 := r1.length
      have l2 := r2.length
      exact .inl (.inr ⟨_, _, _, _, rfl, rfl, e1, e2, by omega, fun p hp => q _ _ (same_upd hp) ⟨p, rfl, hp, _, upd_same, (r1.append r2).new (same_upd hp)⟩⟩)
    · cases g
  · obtain ⟨v, w, rfl, h1, h2⟩ := h.two
    have k1 := h1.tupR
    have k2 := h2.tupR
    obtain ⟨a, xs, rfl, e1, r1⟩ := h1.tup
    obtain ⟨b, ys, rfl, e2, r2⟩ := h2.tup
    split at g
    · cases g
      rename_i hz
      have := million
      have l1 := r1.length
      have l2 := r2.length
      by_cases z1 : xs = []
      · refine .inr (.inl ⟨_, _, _, _, rfl, rfl, e1, e2, by omega, fun z => ?_, fun z => absurd z1 z, fun z => absurd z1 z⟩)
        subst z
        cases r1
        exact q H _ (.refl _) (k2.old (.refl _))
      · by_cases z2 : ys = []
        · refine .inr (.inl ⟨_, _, _, _, rfl, rfl, e1, e2, by omega, fun z => absurd z z1, fun _ z => ?_, fun _ z => absurd z2 z⟩)
          subst z
          cases r2
          rw [List.append_nil] at q
          exact q H _ (.refl _) (k1.old (.refl _))
        · exact .inr (.inr ⟨_, _, _, _, rfl, rfl, e1, e2, by omega, z1, z2, _, fun p o hp ho => q _ _ (same_upd hp) (.newT ho ((r1.append r2).old (same_upd hp)))⟩)
    · cases g
  · cases g
/-- ints: an operation with what it asks -/
def gI (C : Int → Int → Bool) (f : Int → Int → PyData) : List PyData → Option Out
  | [.int i, .int j] => if C i j = true then some (.sh (f i j)) else none
  | _ => none
theorem i_int {K : PySem.W.Frag} {Cp : Int → Int → Prop} {fv : Int → Int → V} {C : Int → Int → Bool} {f : Int → Int → PyData} (hC : ∀ i j, C i j = true → Cp i j) (hf : ∀ N H i j, R K N H (fv i j) (f i j)) : Impl K (L2r (rI Cp fv)) (gI C f) := by
  intro N H vs ds o Q h g q
  unfold gI at g
  split at g
  · obtain ⟨v, w, rfl, h1, h2⟩ := h.two
    split at g
    · cases g
      rename_i hc
      exact ⟨_, _, h1.int, h2.int, hC _ _ hc, q H _ (.refl _) (hf _ _ _ _)⟩
    · cases g
  · cases g
def gI0 (f : Int → Int → PyData) : List PyData → Option Out
  | [.int i, .int j] => some (.sh (f i j))
  | _ => none
theorem i_int0 {K : PySem.W.Frag} {fv : Int → Int → V} {f : Int → Int → PyData} (hf : ∀ N H i j, R K N H (fv i j) (f i j)) : Impl K (L2r (rI0 fv)) (gI0 f) := by
  intro N H vs ds o Q h g q
  unfold gI0 at g
  split at g
  · obtain ⟨v, w, rfl, h1, h2⟩ := h.two
    cases g
    exact ⟨_, _, h1.int, h2.int, q H _ (.refl _) (hf _ _ _ _)⟩
  · cases g
def gSub := gI0 fun i j => .int (i - j)
def mulOk (i j : Int) : Bool := decide (i.natAbs.log2 + j.natAbs.log2 < 1000000)
def gMul := gI mulOk fun i j => .int (i * j)
def divOk (_ j : Int) : Bool := decide (0 < j) && decide (j.natAbs.log2 < 9000)
def gDiv := gI divOk fun i j => .int (i / j)
def gMod := gI (fun _ j => decide (0 < j)) fun i j => .int (i % j)
def powOk (i j : Int) : Bool := decide (0 ≤ j) && (decide (j ≤ 1000000) && decide (i.natAbs < 2 ^ 64))
def gPow := gI powOk fun i j => .int (i ^ j.toNat)
def gShl := gI powOk fun i j => .int (i * 2 ^ j.toNat)
def gShr := gI (fun _ j => decide (0 ≤ j)) fun i j => .int (i / 2 ^ j.toNat)
section
variable {K : PySem.W.Frag}
theorem i_sub : Impl K (L2r (rI0 fun i j => .int (i - j))) gSub := i_int0 fun _ _ _ _ => .int _
theorem i_mul : Impl K (L2r (rI CMulW fun i j => .int (i * j))) gMul := i_int (fun i j h => show i.natAbs.log2 + j.natAbs.log2 < 1000000 from of_decide_eq_true h) fun _ _ _ _ => .int _
theorem i_div : Impl K (L2r (rI CDivW fun i j => .int (i / j))) gDiv := i_int (fun _ _ h => by
  unfold divOk at h
  rw [Bool.and_eq_true] at h
  exact ⟨of_decide_eq_true h.1, of_decide_eq_true h.2⟩) fun _ _ _ _ => .int _
theorem i_mod : Impl K (L2r (rI (fun _ j => 0 < j) fun i j => .int (i % j))) gMod := i_int (fun _ _ h => of_decide_eq_true h) fun _ _ _ _ => .int _
theorem pow_of {i j : Int} (h : powOk i j = true) : CPow i j := by
  unfold powOk at h
  rw [Bool.and_eq_true, Bool.and_eq_true] at h
  exact ⟨of_decide_eq_true h.1, of_decide_eq_true h.2.1, of_decide_eq_true h.2.2⟩
theorem i_pow : Impl K (L2r (rI CPow fun i j => .int (i ^ j.toNat))) gPow := i_int (fun _ _ h => pow_of h) fun _ _ _ _ => .int _
theorem i_shl : Impl K (L2r (rI CPow fun i j => .int (i * 2 ^ j.toNat))) gShl := i_int (fun _ _ h => pow_of h) fun _ _ _ _ => .int _
theorem i_shr : Impl K (L2r (rI (fun _ j => 0 ≤ j) fun i j => .int (i / 2 ^ j.toNat))) gShr := i_int (fun _ _ h => of_decide_eq_true h) fun _ _ _ _ => .int _
end
def gNeg : List PyData → Option Out
  | [.int i] => some (.sh (.int (-i)))
  | _ => none
theorem i_neg {K : PySem.W.Frag} : Impl K (L1r (rU fun i => .int (-i))) gNeg := by
  intro N H vs ds o Q h g q
  unfold gNeg at g
  split at g
  · obtain ⟨v, rfl, h1⟩ := h.one
    cases g
    exact ⟨_, h1.int, q H _ (.refl _) (.int _)⟩
  · cases g
/-! ### comparisons -/
def rLtA (K : PySem.W.Frag) : R2 := fun x y H Q => (rI0 (fun i j => .bl (decide (i < j))) x y H Q ∨ ∃ i j, x = .str i ∧ y = .str j ∧ Q (.bl (decide (i.cps.toList < j.cps.toList))) H) ∨ rLtT K x y H Q
theorem op_ltA (hu : X.A.units + 64 < cLine) : OpR X (compareOp .Lt) (rLtA X.K) := (op_lt.or op_lt_str).or (op_ltT (by omega))
def gLt : List PyData → Option Out
  | [.int i, .int j] => some (.sh (.bool (decide (i < j))))
  | [.str i, .str j] => some (.sh (.bool (decide (i.cps.toList < j.cps.toList))))
  | [.tuple i, .tuple j] => match ints? i, ints? j with
    | some ns, some ms => some (.sh (.bool (HT.lexLt ns ms)))
    | _, _ => none
  | _ => none
theorem i_lt {K : PySem.W.Frag} : Impl K (L2r (rLtA K)) gLt := by
  intro N H vs ds o Q h g q
  unfold gLt at g
  split at g
  · obtain ⟨v, w, rfl, h1, h2⟩ := h.two
    cases g
    exact .inl (.inl ⟨_, _, h1.int, h2.int, q H _ (.refl _) (.bl _)⟩)
  · obtain ⟨v, w, rfl, h1, h2⟩ := h.two
    cases g
    exact .inl (.inr ⟨_, _, h1.str, h2.str, q H _ (.refl _) (.bl _)⟩)
  · obtain ⟨v, w, rfl, h1, h2⟩ := h.two
    obtain ⟨a, xs, rfl, e1, r1⟩ := h1.tup
    obtain ⟨b, ys, rfl, e2, r2⟩ := h2.tup
    split at g
    · cases g
      rename_i k1 k2
      rw [ints_ra k1 r1] at e1
      rw [ints_ra k2 r2] at e2
      exact .inr ⟨_, _, _, _, rfl, rfl, e1, e2, q H _ (.refl _) (.bl _)⟩
    · cases g
  · cases g
def rLeA : R2 := fun x y H Q => rI0 (fun i j => .bl (decide (i ≤ j))) x y H Q ∨ ∃ i j, x = .str i ∧ y = .str j ∧ Q (.bl (!decide (j.cps.toList < i.cps.toList))) H
theorem op_leA : OpR X (compareOp .LtE) rLeA := op_le.or op_le_str
def gLe : List PyData → Option Out
  | [.int i, .int j] => some (.sh (.bool (decide (i ≤ j))))
  | [.str i, .str j] => some (.sh (.bool (!decide (j.cps.toList < i.cps.toList))))
  | _ => none
theorem i_le {K : PySem.W.Frag} : Impl K (L2r rLeA) gLe := by
  intro N H vs ds o Q h g q
  unfold gLe at g
  split at g
  · obtain ⟨v, w, rfl, h1, h2⟩ := h.two
    cases g
    exact .inl ⟨_, _, h1.int, h2.int, q H _ (.refl _) (.bl _)⟩
  · obtain ⟨v, w, rfl, h1, h2⟩ := h.two
    cases g
    exact .inr ⟨_, _, h1.str, h2.str, q H _ (.refl _) (.bl _)⟩
  · cases g
def gGt := gI0 fun i j => .bool (decide (j < i))
def gGe := gI0 fun i j => .bool (decide (j ≤ i))
theorem i_gt {K : PySem.W.Frag} : Impl K (L2r (rI0 fun i j => .bl (decide (j < i)))) gGt := i_int0 fun _ _ _ _ => .bl _
theorem i_ge {K : PySem.W.Frag} : Impl K (L2r (rI0 fun i j => .bl (decide (j ≤ i)))) gGe := i_int0 fun _ _ _ _ => .bl _
/-- == : flat things at once; the rest as data -/
def scalD : PyData → PyData → Option Bool
  | .none, .none => some true
  | .none, .int _ => some false
  | .int _, .none => some false
  | .none, .bool _ => some false
  | .bool _, .none => some false
  | .none, .str _ => some false
  | .str _, .none => some false
  | .int i, .int j => some (decide (i = j))
  | .bool i, .bool j => some (decide (i = j))
  | .str i, .str j => some (decide (i = j))
  | .int _, .str _ => some false
  | .str _, .int _ => some false
  | .bool _, .str _ => some false
  | .str _, .bool _ => some false
  | _, _ => none
def eqD (d e : PyData) : Option Bool := match scalD d e with
  | some b => some b
  | none => if SeqAt.shaped d = true ∧ SeqAt.shaped e = true then some (PyData.eqv d e) else none
def gEq : List PyData → Option Out
  | [d, e] => (eqD d e).map fun b => .sh (.bool b)
  | _ => none
def gNe : List PyData → Option Out
  | [d, e] => (eqD d e).map fun b => .sh (.bool (!b))
  | _ => none
theorem scal_ok {K : PySem.W.Frag} {N : Addr → Prop} {H : Hp} {v w : V} {d e : PyData} {b : Bool} (h1 : Top K N H v d) (h2 : Top K N H w e) (h : scalD d e = some b) : scal v w = true ∧ decide (v = w) = b := by
  unfold scalD at h
  split at h <;> first
    | cases h
    | skip
  all_goals first | cases h1.non | cases h1.int | cases h1.bl | cases h1.str
  all_goals first | cases h2.non | cases h2.int | cases h2.bl | cases h2.str
  all_goals refine ⟨rfl, ?_⟩
  all_goals first
    | exact decide_eq_true rfl
    | exact decide_eq_false (fun z => nomatch z)
    | exact decide_eq_decide.mpr ⟨fun z => V.int.inj z, fun z => by rw [z]⟩
    | exact decide_eq_decide.mpr ⟨fun z => V.bl.inj z, fun z => by rw [z]⟩
    | exact decide_eq_decide.mpr ⟨fun z => V.str.inj z, fun z => by rw [z]⟩
mutual
theorem R.dp {K : PySem.W.Frag} {N : Addr → Prop} {H : Hp} : ∀ {v : V} {d : PyData}, R K N H v d → d.canLay0 = true → Dp K H v d
  | _, _, .non, _ => .non
  | _, _, .bl b, _ => .bl b
  | _, _, .int i, _ => .int i
  | _, _, .str x, _ => .str x
  | _, _, .lst n h r, c => .lst (.inl h) (RA.dp r c)
  | _, _, .lstK h r, c => .lst (LL.sq (H := H) (.inr h)) (RA.dp r c)
  | _, _, .tup h r _, c => .tup (.inl (.inl h)) (RA.dp r c)
  | _, _, .tupX h _ r _, c => .tup (.inl (.inr ⟨_, h⟩)) (RA.dp r c)
  | _, _, .exc n h, c => by cases c
  | _, _, .dk n h r, c => by cases c
  | _, _, .dt n h r, c => by cases c
theorem RA.dp {K : PySem.W.Frag} {N : Addr → Prop} {H : Hp} : ∀ {v : List V} {d : List PyData}, RA K N H v d → PyData.canLayAll0 d = true → DpAll K H v d
  | _, _, .nil, _ => .nil
  | _, _, .cons h r, c => by
    have c' := Bool.and_eq_true_iff.mp (show (PyData.canLay0 _ && PyData.canLayAll0 _) = true from c)
    exact .cons (R.dp h c'.1) (RA.dp r c'.2)
end
theorem Top.dp {K : PySem.W.Frag} {N : Addr → Prop} {H : Hp} {v : V} {d : PyData} (h : Top K N H v d) (c : d.canLay0 = true) : Dp K H v d := by
  cases h with
  | val r => exact r.dp c
  | own q =>
    cases d with
    | list ds => obtain ⟨xs, e, r⟩ := q; exact .lst (SqL.of e) (r.dp c)
    | dict ds => cases c
    | _ => exact q.elim
theorem op_eqA (hu : X.A.units + 64 < cLine) : OpR X (compareOp .Eq) (fun x y H Q => rEq x y H Q ∨ rEqD X.K x y H Q) := op_eq.or (op_eqD hu)
theorem op_neA (hu : X.A.units + 64 < cLine) : OpR X (compareOp .NotEq) (fun x y H Q => rNe x y H Q ∨ rNeD X.K x y H Q) := op_ne.or (op_neD hu)
theorem i_eq {K : PySem.W.Frag} : Impl K (L2r fun x y H Q => rEq x y H Q ∨ rEqD K x y H Q) gEq := by
  intro N H vs ds o Q h g q
  unfold gEq at g
  split at g
  · obtain ⟨v, w, rfl, h1, h2⟩ := h.two
    rename_i d e
    unfold eqD at g
    cases hs : scalD d e with
    | some b =>
      simp only [hs] at g
      cases g
      obtain ⟨k1, k2⟩ := scal_ok h1 h2 hs
      exact .inl ⟨k1, by rw [k2]; exact q H _ (.refl _) (.bl _)⟩
    | none =>
      simp only [hs] at g
      split at g
      · rename_i c
        cases g
        exact .inr ⟨d, e, h1.dp (SeqAt.canLay_of_shaped c.1), h2.dp (SeqAt.canLay_of_shaped c.2), c.1, c.2, q H _ (.refl _) (.bl _)⟩
      · cases g
  · cases g
theorem i_ne {K : PySem.W.Frag} : Impl K (L2r fun x y H Q => rNe x y H Q ∨ rNeD K x y H Q) gNe := by
  intro N H vs ds o Q h g q
  unfold gNe at g
  split at g
  · obtain ⟨v, w, rfl, h1, h2⟩ := h.two
    rename_i d e
    unfold eqD at g
    cases hs : scalD d e with
    | some b =>
      simp only [hs] at g
      cases g
      obtain ⟨k1, k2⟩ := scal_ok h1 h2 hs
      exact .inl ⟨k1, by rw [k2]; exact q H _ (.refl _) (.bl _)⟩
    | none =>
      simp only [hs] at g
      split at g
      · rename_i c
        cases g
        exact .inr ⟨d, e, h1.dp (SeqAt.canLay_of_shaped c.1), h2.dp (SeqAt.canLay_of_shaped c.2), c.1, c.2, q H _ (.refl _) (.bl _)⟩
      · cases g
  · cases g
end
end DL

set_option Elab.async false
set_option linter.all false
set_option maxRecDepth 100000
set_option maxHeartbeats 1000000
namespace DL
open PySem PySem.Spec PyProof.Rows L2

section
variable {K : PySem.W.Frag} {N : Addr → Prop} {H : Hp}
theorem RA.get' {v : List V} {d : List PyData} (h : RA K N H v d) {i : Nat} {y : PyData} (e : d[i]? = some y) : ∃ x, v[i]? = some x ∧ R K N H x y := h.get e
theorem RA.atI {v : List V} {d : List PyData} (h : RA K N H v d) {i : Int} {y : PyData} (e : atI d i = some y) : ∃ x, L2.atI v i = some x ∧ R K N H x y := by
  unfold L2.atI at e ⊢
  rw [h.length]
  cases q : ixN d.length i with
  | none => rw [q] at e; cases e
  | some j =>
    rw [q] at e
    exact h.get e
theorem RA.take {v : List V} {d : List PyData} (h : RA K N H v d) : ∀ n : Nat, RA K N H (v.take n) (d.take n) := by
  intro n
  induction n generalizing v d with
  | zero => exact .nil
  | succ n ih =>
    cases h with
    | nil => exact .nil
    | cons a r => exact .cons a (ih r)
theorem RA.drop {v : List V} {d : List PyData} (h : RA K N H v d) : ∀ n : Nat, RA K N H (v.drop n) (d.drop n) := by
  intro n
  induction n generalizing v d with
  | zero => exact h
  | succ n ih =>
    cases h with
    | nil => exact .nil
    | cons a r => exact ih r
theorem RA.set {v : List V} {d : List PyData} (h : RA K N H v d) {x : V} {y : PyData} (hx : R K N H x y) : ∀ n : Nat, RA K N H (v.set n x) (d.set n y) := by
  intro n
  induction n generalizing v d with
  | zero =>
    cases h with
    | nil => exact .nil
    | cons a r => exact .cons hx r
  | succ n ih =>
    cases h with
    | nil => exact .nil
    | cons a r => exact .cons a (ih r)
theorem RA.rev {v : List V} {d : List PyData} (h : RA K N H v d) : RA K N H v.reverse d.reverse := by
  induction v generalizing d with
  | nil => cases h; exact .nil
  | cons x xs ih =>
    cases h with
    | cons a r =>
      rw [List.reverse_cons, List.reverse_cons]
      exact (ih r).snoc a
theorem RA.erase {v : List V} {d : List PyData} (h : RA K N H v d) : ∀ n : Nat, RA K N H (v.eraseIdx n) (d.eraseIdx n) := by
  intro n
  induction n generalizing v d with
  | zero =>
    cases h with
    | nil => exact .nil
    | cons a r => exact r
  | succ n ih =>
    cases h with
    | nil => exact .nil
    | cons a r => exact .cons a (ih r)
end

/-! ### subscripts -/
def gIx : List PyData → Option Out
  | [.list l, .int i] => (atI l i).map .sh
  | [.tuple l, .int i] => (atI l i).map .sh
  | [.str z, .int i] => if z.length ≤ 1000000 then (atI z.cps.toList i).map fun c => .sh (.str ⟨#[c]⟩) else none
  | _ => none
theorem i_ix {K : PySem.W.Frag} : Impl K (L2r (rIx K)) gIx := by
  intro N H vs ds o Q h g q
  unfold gIx at g
  split at g
  · obtain ⟨v, w, rfl, h1, h2⟩ := h.two
    obtain ⟨a, xs, rfl, e1, r1⟩ := h1.list
    rename_i l i
    cases z : atI l i with
    | none => rw [z] at g; cases g
    | some y =>
      rw [z] at g
      cases g
      obtain ⟨x, e, r⟩ := r1.atI z
      exact .inl ⟨a, xs, i, x, rfl, h2.int, e1.sq, e, q H _ (.refl _) (r.old (.refl _))⟩
  · obtain ⟨v, w, rfl, h1, h2⟩ := h.two
    obtain ⟨a, xs, rfl, e1, r1⟩ := h1.tup
    rename_i l i
    cases z : atI l i with
    | none => rw [z] at g; cases g
    | some y =>
      rw [z] at g
      cases g
      obtain ⟨x, e, r⟩ := r1.atI z
      exact .inr (.inl ⟨a, xs, i, x, rfl, h2.int, e1, e, q H _ (.refl _) (r.old (.refl _))⟩)
  · obtain ⟨v, w, rfl, h1, h2⟩ := h.two
    rename_i zz i
    split at g
    · rename_i hz
      cases z : atI zz.cps.toList i with
      | none => rw [z] at g; cases g
      | some c =>
        rw [z] at g
        cases g
        have := million
        exact .inr (.inr ⟨zz, i, c, h1.str, h2.int, by omega, z, q H _ (.refl _) (.str _)⟩)
    · cases g
  · cases g

/-! ### isinstance with a built-in class -/
def tyName : PyData → String
  | .none => "NoneType"
  | .bool _ => "bool"
  | .int _ => "int"
  | .str _ => "str"
  | .list _ => "list"
  | .tuple _ => "tuple"
  | .dict _ => "dict"
/-- the class of a caught error, as data tell it -/
def excD : PyData → Option Str
  | .dict [(.none, .str x)] => some x
  | _ => none
def tyB (d : PyData) (T : String) : Option Bool := match excD d with
  | some _ => none
  | none => kitB (tyName d) T
theorem tyB_some {d : PyData} {T : String} {b : Bool} (h : tyB d T = some b) : excD d = none ∧ kitB (tyName d) T = some b := by
  unfold tyB at h
  cases e : excD d with
  | some x => rw [e] at h; cases h
  | none => rw [e] at h; exact ⟨rfl, h⟩
def isM (T : String) (m : M Sl) : M Sl := m >>= fun s => fun δ => match datS δ s with
  | some d => match tyB d T with
    | some b => .ok (.sh (.bool b)) δ
    | none => .no
  | none => .no
theorem ty_x {K : PySem.W.Frag} {N : Addr → Prop} {H : Hp} {v : V} {d : PyData} (h : Top K N H v d) (he : excD d = none) : TyX K H v (.type (tyName d)) := by
  cases h with
  | val r =>
    cases r with
    | exc n h => cases he
    | non => exact .base .non
    | bl b => exact .base (.bl b)
    | int i => exact .base (.int i)
    | str x => exact .base (.str x)
    | lst n h r =>
      rcases h with h | ⟨o, h⟩
      · exact .base (.lst h)
      · exact .base (.frz h)
    | lstK h r =>
      obtain ⟨its, n, hk, _⟩ := h
      exact .kList hk rfl
    | tup h r _ => exact .base (.tup h)
    | tupX h _ r _ => exact .fTuple h
    | dk n h r =>
      rcases h with h | ⟨o, h⟩
      · exact .base (.dK h)
      · exact .fDict h
    | dt n h r => exact .base (.dT h)
  | own c =>
    cases d with
    | list ds => obtain ⟨xs, e, _⟩ := c; exact .base (.lst e)
    | dict ds =>
      rcases c with ⟨k, e, _⟩ | ⟨k, e, _⟩
      · exact .base (.dK e)
      · exact .base (.dT e)
    | _ => exact c.elim
section
variable {X : Cx} {W : XW} {pos : Pos}
theorem d_isi {e : Expr} {m : M Sl} {T : Str} {Tn : String} {p pt : Pos} (hg : Gl X "isinstance") (hm : X.mg "isinstance" = none) (hv : bootBuiltins "isinstance" = some (.builtin "isinstance")) (he : PE X e (tV X.K W m)) (hgT : Gl X T) (hmT : X.mg T = none) (hvT : bootBuiltins T = some (.type Tn)) (hn : T ≠ "__name__" := by decide) (hd : (T == ("__debug__" : Str)) = false := by decide)
    (hs : starEach [e, .Name T pt] X.env = (false, eval e X.env) :: starEach [.Name T pt] X.env := by rfl) (hs2 : starEach [.Name T pt] X.env = (false, eval (.Name T pt) X.env) :: starEach [] X.env := by rfl) (hpl : (backTo pos (starEach [.Name T pt] X.env)).any (·.1) = false := by rfl) :
    PE X (.Call (.Name "isinstance" p) [e, .Name T pt] [] pos) (tV X.K W (isM Tn m)) :=
  PE.imp (pe_callB call_isi hg hm hv (pa_cons he (pa_cons (pe_bltn (v := .ty Tn) hgT hmT hvT rfl hn hd) pa_nil hs2) hs) (by decide) (by decide) hs hpl) fun σ H Q ⟨Γ, δ, γ, r, p⟩ => ⟨Γ, δ, γ, r, (Post.bind p).imp fun s δ1 p1 v H1 r1 => by
    cases h1 : datS δ1 s with
    | none => simp only [h1] at p1; exact False.elim p1
    | some d =>
      simp only [h1] at p1
      cases h2 : tyB d Tn with
      | none => simp only [h2] at p1; exact False.elim p1
      | some b =>
        simp only [h2] at p1
        have ht := r1.top (List.mem_cons_self) h1
        obtain ⟨h3, h4⟩ := tyB_some h2
        exact ⟨v, .ty Tn, _, _, b, rfl, .ty Tn, ty_x ht h3, kit_ty h4, p1 _ H1 ⟨r1.len, r1.pop.rel.push rfl ⟨_, rfl, .bl b⟩⟩⟩⟩
end
end DL
namespace DL
open PySem PySem.Spec PyProof.Rows L2
section
variable {T : String}
@[simp] theorem tyB_non : tyB .none T = kitB "NoneType" T := rfl
@[simp] theorem tyB_bl {b : Bool} : tyB (.bool b) T = kitB "bool" T := rfl
@[simp] theorem tyB_int {i : Int} : tyB (.int i) T = kitB "int" T := rfl
@[simp] theorem tyB_str {i : Str} : tyB (.str i) T = kitB "str" T := rfl
@[simp] theorem tyB_list {l : List PyData} : tyB (.list l) T = kitB "list" T := rfl
@[simp] theorem tyB_tup {l : List PyData} : tyB (.tuple l) T = kitB "tuple" T := rfl
@[simp] theorem tyB_nil : tyB (.dict []) T = kitB "dict" T := rfl
@[simp] theorem tyB_mark {l : List (PyData × PyData)} : tyB (.dict ((.none, .none) :: l)) T = kitB "dict" T := by
  cases l <;> rfl
end
end DL

set_option Elab.async false
set_option linter.all false
set_option maxRecDepth 100000
set_option maxHeartbeats 1000000
namespace DL
open PySem PySem.Spec PyProof.Rows L2

/-! ### built-in functions -/
section
variable {X : Cx} {K : PySem.W.Frag}
theorem d_len_any : True := True.intro
def rLenA (K : PySem.W.Frag) : List V → Hp → VK → Prop := fun xs H Q => ((∃ p ys, xs = [.ref p] ∧ (SqL K H p ys ∨ SqT K H p ys) ∧ Q (.int ys.length) H) ∨ ∃ z, xs = [.str z] ∧ z.length ≤ sizeLine ∧ Q (.int z.length) H) ∨
  ∃ a kvs, xs = [V.ref a] ∧ Rd H a (.dK kvs) ∧ Q (.int (kvs.length : Nat)) H
theorem call_lenR : CallR X (.builtin "len") (fun xs H Q => ∃ a kvs, xs = [V.ref a] ∧ Rd H a (.dK kvs) ∧ Q (.int (kvs.length : Nat)) H) := by
  intro pins s σ H xs us Q I r h
  obtain ⟨a, kvs, rfl, ha, q⟩ := h
  obtain ⟨u, rfl, ru⟩ := vals1 r
  cases ru
  exact d_len I ha fun t s' I' => ⟨.int kvs.length, H, I', ⟨t, rfl⟩, q⟩
theorem call_lenA : CallR X (.builtin "len") (rLenA X.K) := (call_len_seq.or call_len_str).or call_lenR
theorem RK.length {N : Addr → Prop} {H : Hp} : ∀ {v : List (Key × V)} {d : List (PyData × PyData)}, RK K N H v d → v.length = d.length
  | _, _, .nil => rfl
  | _, _, .cons _ r => by simp [RK.length r]
def intKeys : List (PyData × PyData) → Bool
  | [] => true
  | (.int _, _) :: r => intKeys r
  | (.str _, _) :: r => intKeys r
  | _ => false
def gLen : List PyData → Option Out
  | [.list l] => some (.sh (.int (l.length : Nat)))
  | [.tuple l] => some (.sh (.int (l.length : Nat)))
  | [.str z] => if z.length ≤ 1000000 then some (.sh (.int (z.length : Nat))) else none
  | _ => none
theorem i_len : Impl K (rLenA K) gLen := by
  intro N H vs ds o Q h g q
  unfold gLen at g
  split at g
  · obtain ⟨v, rfl, h1⟩ := h.one
    obtain ⟨a, xs, rfl, e1, r1⟩ := h1.list
    cases g
    refine .inl (.inl ⟨a, xs, rfl, .inl e1.sq, ?_⟩)
    rw [r1.length]
    exact q H _ (.refl _) (.int _)
  · obtain ⟨v, rfl, h1⟩ := h.one
    obtain ⟨a, xs, rfl, e1, r1⟩ := h1.tup
    cases g
    refine .inl (.inl ⟨a, xs, rfl, .inr e1, ?_⟩)
    rw [r1.length]
    exact q H _ (.refl _) (.int _)
  · obtain ⟨v, rfl, h1⟩ := h.one
    split at g
    · rename_i hz
      cases g
      have := million
      exact .inl (.inr ⟨_, by rw [h1.str], by omega, q H _ (.refl _) (.int _)⟩)
    · cases g
  · cases g
def gSum : List PyData → Option Out
  | [.list l] => (ints? l).map fun ns => .sh (.int ns.sum)
  | _ => none
theorem i_sum : Impl K (rSum K) gSum := by
  intro N H vs ds o Q h g q
  unfold gSum at g
  split at g
  · obtain ⟨v, rfl, h1⟩ := h.one
    obtain ⟨a, xs, rfl, e1, r1⟩ := h1.list
    rw [Option.map_eq_some_iff] at g
    obtain ⟨ns, hn, rfl⟩ := g
    have e := ints_ra hn r1
    subst e
    exact ⟨a, ns, rfl, e1.sq, q H _ (.refl _) (.int _)⟩
  · cases g
def gAll : List PyData → Option Out
  | [.list l] => (bls? l).map fun ns => .sh (.bool (ns.all id))
  | _ => none
theorem i_all : Impl K (rAll K) gAll := by
  intro N H vs ds o Q h g q
  unfold gAll at g
  split at g
  · obtain ⟨v, rfl, h1⟩ := h.one
    obtain ⟨a, xs, rfl, e1, r1⟩ := h1.list
    rw [Option.map_eq_some_iff] at g
    obtain ⟨ns, hn, rfl⟩ := g
    have e := bls_ra hn r1
    subst e
    exact ⟨a, ns, rfl, e1.sq, q H _ (.refl _) (.bl _)⟩
  · cases g
abbrev rListOf (K : PySem.W.Frag) : List V → Hp → VK → Prop := fun xs H Q => ∃ p ys, xs = [.ref p] ∧ (SqL K H p ys ∨ SqT K H p ys) ∧ ∀ l, H l = none → Q (.ref l) (upd H l (.lst ys))
def gList : List PyData → Option Out
  | [.list l] => some (.nw (.list l))
  | [.tuple l] => some (.nw (.list l))
  | _ => none
theorem i_list : Impl K (rListOf K) gList := by
  intro N H vs ds o Q h g q
  unfold gList at g
  split at g
  · obtain ⟨v, rfl, h1⟩ := h.one
    obtain ⟨a, xs, rfl, e1, r1⟩ := h1.list
    cases g
    exact ⟨a, xs, rfl, .inl e1.sq, fun p hp => q _ _ (same_upd hp) ⟨p, rfl, hp, xs, upd_same, r1.new (same_upd hp)⟩⟩
  · obtain ⟨v, rfl, h1⟩ := h.one
    obtain ⟨a, xs, rfl, e1, r1⟩ := h1.tup
    cases g
    exact ⟨a, xs, rfl, .inr e1, fun p hp => q _ _ (same_upd hp) ⟨p, rfl, hp, xs, upd_same, r1.new (same_upd hp)⟩⟩
  · cases g
abbrev rTupleOf (K : PySem.W.Frag) : List V → Hp → VK → Prop := fun xs H Q => ∃ p ys, xs = [.ref p] ∧ (SqT K H p ys ∧ Q (.ref p) H)
abbrev rTupleX (K : PySem.W.Frag) : List V → Hp → VK → Prop := fun xs H Q => (∃ p ys, xs = [.ref p] ∧ SqL K H p ys ∧ ∃ c, ∀ l o, H l = none → TOk o → Q (.ref l) (upd H l (tupO c o ys))) ∨ rTupleOf K xs H Q
theorem call_tupleS {X : Cx} : CallR X (.type "tuple") (rTupleOf X.K) := fun pins s σ H xs us Q I r ⟨p, ys, e, h1, h2⟩ => call_tuple_of pins s σ H xs us Q I r ⟨p, ys, e, .inr ⟨h1, h2⟩⟩
theorem call_tupleA {X : Cx} : CallR X (.type "tuple") (rTupleX X.K) := call_tupleX.or call_tupleS
def gTuple : List PyData → Option Out
  | [.list l] => some (.sh (.tuple l))
  | [.tuple l] => some (.sh (.tuple l))
  | _ => none
theorem i_tuple : Impl K (rTupleX K) gTuple := by
  intro N H vs ds o Q h g q
  unfold gTuple at g
  split at g
  · obtain ⟨v, rfl, h1⟩ := h.one
    obtain ⟨a, xs, rfl, e1, r1⟩ := h1.list
    cases g
    exact .inl ⟨a, xs, rfl, e1.sq, _, fun p o hp ho => q _ _ (same_upd hp) (.newT ho (r1.old (same_upd hp)))⟩
  · obtain ⟨v, rfl, h1⟩ := h.one
    have k := h1.tupR
    obtain ⟨a, xs, rfl, e1, r1⟩ := h1.tup
    cases g
    exact .inr ⟨a, xs, rfl, e1, q H _ (.refl _) (k.old (.refl _))⟩
  · cases g
/-- min, max of two ints; int of a bool -/
def gMin2 := gI0 fun i j => .int (if j < i then j else i)
def gMax2 := gI0 fun i j => .int (if j > i then j else i)
theorem i_min2 : Impl K (fun xs H Q => ∃ i j, xs = [.int i, .int j] ∧ Q (.int (if j < i then j else i)) H) gMin2 := by
  intro N H vs ds o Q h g q
  unfold gMin2 gI0 at g
  split at g
  · obtain ⟨v, w, rfl, h1, h2⟩ := h.two
    cases g
    exact ⟨_, _, by rw [h1.int, h2.int], q H _ (.refl _) (.int _)⟩
  · cases g
theorem i_max2 : Impl K (fun xs H Q => ∃ i j, xs = [.int i, .int j] ∧ Q (.int (if j > i then j else i)) H) gMax2 := by
  intro N H vs ds o Q h g q
  unfold gMax2 gI0 at g
  split at g
  · obtain ⟨v, w, rfl, h1, h2⟩ := h.two
    cases g
    exact ⟨_, _, by rw [h1.int, h2.int], q H _ (.refl _) (.int _)⟩
  · cases g
/-- flat things in a list, a tuple; a sign in a text -/
def flatD : PyData → Bool
  | .none => true
  | .bool _ => true
  | .int _ => true
  | .str _ => true
  | _ => false
def vOf : PyData → V
  | .none => .non
  | .bool b => .bl b
  | .int i => .int i
  | .str s => .str s
  | _ => .non
theorem flat_v {N : Addr → Prop} {H : Hp} {v : V} {d : PyData} (h : R K N H v d) (f : flatD d = true) : v = vOf d ∧ flatV v = true := by
  cases h <;> first
    | exact ⟨rfl, rfl⟩
    | cases f
theorem flat_vs {N : Addr → Prop} {H : Hp} : ∀ {vs : List V} {ds : List PyData}, RA K N H vs ds → ds.all flatD = true → vs = ds.map vOf ∧ vs.all flatV = true
  | [], [], .nil, _ => ⟨rfl, rfl⟩
  | v :: vs, d :: ds, .cons h r, f => by
    rw [List.all_cons, Bool.and_eq_true] at f
    obtain ⟨e1, f1⟩ := flat_v h f.1
    obtain ⟨e2, f2⟩ := flat_vs r f.2
    exact ⟨by rw [e1, e2]; rfl, by rw [List.all_cons, f1, f2]; rfl⟩
def inD (x : PyData) (l : List PyData) : Bool := inV (vOf x) (l.map vOf)
def rInA (K : PySem.W.Frag) (neg : Bool) : R2 := fun x y H Q => (∃ (c : Nat) (z : Str), x = .str ⟨#[c]⟩ ∧ y = .str z ∧ Q (.bl (if neg then !decide (c ∈ z.cps.toList) else decide (c ∈ z.cps.toList))) H) ∨ rIn K neg x y H Q
theorem op_inA : OpR X (compareOp .In) (rInA X.K false) := op_in_sign.or op_in_seq
theorem op_notInA : OpR X (compareOp .NotIn) (rInA X.K true) := op_notIn_sign.or op_notIn_seq
def gIn (neg : Bool) : List PyData → Option Out
  | [.str ⟨⟨[c]⟩⟩, .str z] => some (.sh (.bool (if neg then !decide (c ∈ z.cps.toList) else decide (c ∈ z.cps.toList))))
  | [x, .list l] => if flatD x = true ∧ l.all flatD = true then some (.sh (.bool (if neg then !inD x l else inD x l))) else none
  | [x, .tuple l] => if flatD x = true ∧ l.all flatD = true then some (.sh (.bool (if neg then !inD x l else inD x l))) else none
  | _ => none
theorem Top.flat {N : Addr → Prop} {H : Hp} {v : V} {d : PyData} (h : Top K N H v d) (f : flatD d = true) : v = vOf d ∧ flatV v = true := by
  cases h with
  | val r => exact flat_v r f
  | own c => cases d <;> first | exact c.elim | cases f
theorem i_in (neg : Bool) : Impl K (L2r (rInA K neg)) (gIn neg) := by
  intro N H vs ds o Q h g q
  unfold gIn at g
  split at g
  · obtain ⟨v, w, rfl, h1, h2⟩ := h.two
    cases g
    exact .inl ⟨_, _, h1.str, h2.str, q H _ (.refl _) (.bl _)⟩
  · obtain ⟨v, w, rfl, h1, h2⟩ := h.two
    obtain ⟨a, xs, rfl, e1, r1⟩ := h2.list
    split at g
    · rename_i hf
      cases g
      obtain ⟨k1, k2⟩ := h1.flat hf.1
      obtain ⟨k3, k4⟩ := flat_vs r1 hf.2
      refine .inr ⟨a, xs, rfl, .inl e1.sq, k2, k4, ?_⟩
      rw [k1, k3]
      exact q H _ (.refl _) (.bl _)
    · cases g
  · obtain ⟨v, w, rfl, h1, h2⟩ := h.two
    obtain ⟨a, xs, rfl, e1, r1⟩ := h2.tup
    split at g
    · rename_i hf
      cases g
      obtain ⟨k1, k2⟩ := h1.flat hf.1
      obtain ⟨k3, k4⟩ := flat_vs r1 hf.2
      refine .inr ⟨a, xs, rfl, .inr e1, k2, k4, ?_⟩
      rw [k1, k3]
      exact q H _ (.refl _) (.bl _)
    · cases g
  · cases g
end

/-! ### changes of lists -/
section
variable {K : PySem.W.Frag}
def sAt : PyData → PyData → PyData → Option PyData
  | .list l, .int k, d => (ixN l.length k).map fun j => .list (l.set j d)
  | _, _, _ => none
theorem is_list : ImplSet K rSetL sAt := by
  intro N H p c di d c' vi v Q hp hc ht hr g q
  unfold sAt at g
  split at g
  · rename_i l k
    rw [Option.map_eq_some_iff] at g
    obtain ⟨j, hj, rfl⟩ := g
    obtain ⟨xs, e, ra⟩ := hc
    have hm : MutD (H p) := by rw [e]; exact True.intro
    exact ⟨p, xs, k, j, rfl, ht.int, e, by rw [ra.length]; exact hj, q _ ⟨_, upd_same, (ra.updT hp hm).set (hr.updT hp hm) j⟩⟩
  · cases g
def mAppend : PyData → List PyData → Option (PyData × PyData)
  | .list l, [d] => if l.length < 1000000 then some (.none, .list (l ++ [d])) else none
  | _, _ => none
theorem im_append : ImplMut K rAppend mAppend := by
  intro N H p c vs ds o c' Q hp hc ra g q
  unfold mAppend at g
  split at g
  · rename_i l d
    split at g
    · rename_i hz
      cases g
      obtain ⟨xs, e, rx⟩ := hc
      have hm : MutD (H p) := by rw [e]; exact True.intro
      cases ra with
      | cons h r =>
        cases r
        have hl := rx.length
        have := million
        exact ⟨p, xs, _, rfl, rfl, e, by omega, q _ _ ⟨_, upd_same, (rx.updT hp hm).snoc (h.updT hp hm)⟩ .non⟩
    · cases g
  · cases g
/-- xs.extend(ys), ys any list that may be read -/
def rExtR (K : PySem.W.Frag) : V → List V → Hp → VK → Prop := fun x vs H Q => ∃ l b xs zs, x = .ref l ∧ vs = [.ref b] ∧ H l = some (.lst xs) ∧ LL K H b zs ∧ xs.length + zs.length ≤ sizeLine ∧ Q .non (upd H l (.lst (xs ++ zs)))
theorem mt_extR {X : Cx} : MtM X "list.extend" (rExtR X.K) := by
  intro pins s σ H x vs v us Q I rx rv h
  obtain ⟨l, b, xs, zs, rfl, rfl, hH, hB, hz, q⟩ := h
  cases rx
  obtain ⟨u, rfl, ru⟩ := rv.one
  cases ru
  obtain ⟨z, its, n, r, hl, e⟩ := I.lstM hH
  obtain ⟨its2, n2, r2, z2, e2⟩ := hB.at I
  have hl2 := r2.length
  have hsz : its.toArray.size + its2.toArray.size ≤ sizeLine := by rw [List.size_toArray, List.size_toArray]; omega
  have hlong : ¬ (!its.toArray.isEmpty && Builtin.List.listTooLong (its.toArray.size + its2.toArray.size)) = true := by
    rw [notLongL hsz, Bool.and_false]
    exact Bool.false_ne_true
  refine call_meets F.slot_list_extend ⟨_, e, rfl⟩ F.entry_list_extend (F.args_list_extend_2 _ _)
    (AutoSeq1.list_extend_list_list_0 l its.toArray n b its2.toArray n2 hlong (by rw [List.size_toArray]; omega) (by omega)) ⟨e, e2, ?_⟩
  refine ⟨.non, _, I.lset (its' := its ++ its2) hH e (by simp) (r.append r2) ?_, rfl, q⟩
  rw [List.length_append]
  omega
def mExtend : PyData → List PyData → Option (PyData × PyData)
  | .list l, [.list d] => if l.length + d.length ≤ 1000000 then some (.none, .list (l ++ d)) else none
  | _, _ => none
theorem im_extend : ImplMut K (rExtR K) mExtend := by
  intro N H p c vs ds o c' Q hp hc ra g q
  unfold mExtend at g
  split at g
  · rename_i l d
    split at g
    · rename_i hz
      cases g
      obtain ⟨xs, e, rx⟩ := hc
      have hm : MutD (H p) := by rw [e]; exact True.intro
      cases ra with
      | cons h r =>
        cases r
        have h' := h
        obtain ⟨b, zs, rfl, lb, rz⟩ := h.ll
        have hl := rx.length
        have hl2 := rz.length
        have := million
        exact ⟨p, b, xs, zs, rfl, rfl, e, lb, by omega, q _ _ ⟨_, upd_same, (rx.updT hp hm).append (rz.updT hp hm)⟩ .non⟩
    · cases g
  · cases g
def mPopAt : PyData → List PyData → Option (PyData × PyData)
  | .list l, [.int i] => if -(2 ^ 63) ≤ i ∧ i < 2 ^ 63 then match seqIndex? i l.length with
      | some k => l[k]?.map fun y => (y, .list (l.eraseIdx k))
      | none => none
    else none
  | _, _ => none
theorem im_popAt : ImplMut K rPopAt mPopAt := by
  intro N H p c vs ds o c' Q hp hc ra g q
  unfold mPopAt at g
  split at g
  · rename_i l i
    split at g
    · rename_i hz
      cases hk : seqIndex? i l.length with
      | none => simp only [hk] at g; cases g
      | some k =>
        simp only [hk, Option.map_eq_some_iff] at g
        obtain ⟨y, hy, e0⟩ := g
        cases e0
        obtain ⟨xs, e, rx⟩ := hc
        have hm : MutD (H p) := by rw [e]; exact True.intro
        cases ra with
        | cons h r =>
          cases r
          cases h
          obtain ⟨x, hx, rxy⟩ := rx.get hy
          exact ⟨p, xs, i, k, x, rfl, rfl, e, hz.1, hz.2, by rw [rx.length]; exact hk, hx, q _ _ ⟨_, upd_same, (rx.updT hp hm).erase k⟩ (rxy.updT hp hm)⟩
    · cases g
  · cases g
def mInsert : PyData → List PyData → Option (PyData × PyData)
  | .list l, [.int i, d] => if l.length < 1000000 ∧ 0 ≤ i ∧ i < 2 ^ 63 then some (.none, .list (l.take i.toNat ++ [d] ++ l.drop i.toNat)) else none
  | _, _ => none
theorem im_insert : ImplMut K (fun x vs H Q => ∃ (l : Addr) (xs : List V) (i : Int) (y : V), x = .ref l ∧ vs = [.int i, y] ∧ H l = some (.lst xs) ∧ xs.length < sizeLine ∧ 0 ≤ i ∧ i < 2 ^ 63 ∧
    Q .non (upd H l (.lst (xs.take i.toNat ++ [y] ++ xs.drop i.toNat)))) mInsert := by
  intro N H p c vs ds o c' Q hp hc ra g q
  unfold mInsert at g
  split at g
  · rename_i l i d
    split at g
    · rename_i hz
      cases g
      obtain ⟨xs, e, rx⟩ := hc
      have hm : MutD (H p) := by rw [e]; exact True.intro
      cases ra with
      | cons h r =>
        cases h
        cases r with
        | cons h2 r =>
          cases r
          rename_i yv
          have hl := rx.length
          have := million
          have rx' := rx.updT (o := .lst (xs.take i.toNat ++ [yv] ++ xs.drop i.toNat)) hp hm
          exact ⟨p, xs, i, _, rfl, rfl, e, by omega, hz.2.1, hz.2.2, q _ _ ⟨_, upd_same, ((rx'.take _).snoc (h2.updT hp hm)).append (rx'.drop _)⟩ .non⟩
    · cases g
  · cases g
def mClear : PyData → List PyData → Option (PyData × PyData)
  | .list _, [] => some (.none, .list [])
  | _, _ => none
theorem im_clear : ImplMut K rClear mClear := by
  intro N H p c vs ds o c' Q hp hc ra g q
  unfold mClear at g
  split at g
  · cases g
    obtain ⟨xs, e, rx⟩ := hc
    cases ra
    exact ⟨p, xs, rfl, rfl, e, q _ _ ⟨[], upd_same, .nil⟩ .non⟩
  · cases g
def mReverse : PyData → List PyData → Option (PyData × PyData)
  | .list l, [] => some (.none, .list l.reverse)
  | _, _ => none
theorem im_reverse : ImplMut K rReverse mReverse := by
  intro N H p c vs ds o c' Q hp hc ra g q
  unfold mReverse at g
  split at g
  · cases g
    obtain ⟨xs, e, rx⟩ := hc
    have hm : MutD (H p) := by rw [e]; exact True.intro
    cases ra
    exact ⟨p, xs, rfl, rfl, e, q _ _ ⟨_, upd_same, (rx.updT hp hm).rev⟩ .non⟩
  · cases g
end

/-! ### a def that changes its first argument -/
section
variable {P : Program} {w : World} {K : PySem.W.Frag} {mg : Str → Option Value} {base : Heap} {x qual : Str} {params : Arguments} {body : List Stmt} {scope : Scope} {dvs : List V} {kws : List (Str × V)} {f : Addr} {fd : FuncData} {cl : Str → Value}
theorem fn_I {N ps : List Str} {k : Nat} {m : SM} {F : PyData → List PyData → FRes} (FD : FunD K x qual params body scope [] kws f fd) (S : FnScope N ps scope) (hF : ∀ d ds, F d ds ≠ .no → ds.length + 1 = ps.length) (he : ∀ d ds, F d ds ≠ .no → F d ds = runI N.length m d ds)
    (hb : ∀ (cdv : Value) (A : Around) (outer : List Env) (s : Shared) (H : Hp) (E : XK), Room k (A.deeper (envOfC qual scope s.heap.objs.size f cdv)) → PSs (cxOf (L2.CX P w) P w K mg base N qual scope f cdv A outer s H E) body (tS K W0 m)) :
    FnOk P w K mg base (L2.CX P w) (k + 1) f fd ps (spI K cl F) := by
  have nn : ∀ vs H Q E, spI K cl F vs H Q E → ∃ p vs' d ds, vs = .ref p :: vs' ∧ RA K (fun _ => True) H vs' ds ∧ F d ds ≠ .no := fun vs H Q E ⟨B, p, vs', d0, ds, e, _, _, _, ra, h⟩ =>
    ⟨p, vs', d0, ds, e, ra.mono (fun _ _ _ => True.intro) (fun _ _ h _ => h) fun _ _ _ h => h, fun z => by rw [z] at h; exact h⟩
  refine FD.ok S (fun vs H Q E h => ?_) fun cdv A outer s H vs Q E hr h => ⟨_, hb cdv A outer s H E hr, ?_⟩
  · obtain ⟨p, vs', d, ds, rfl, ra, hn⟩ := nn vs H Q E h
    rw [List.length_cons, ra.length, hF d ds hn]
  · obtain ⟨B, p, vs', d0, ds, rfl, hB, hBp, hc, ra, h⟩ := h
    have hn : F d0 ds ≠ .no := fun z => by rw [z] at h; exact h
    have e1 := he d0 ds hn
    have own : ∀ a, OwnA (((V.ref p :: vs').map some).zip (Sl.io 0 d0 :: ds.map Sl.sh) ++ []) a → a = p := fun a ⟨e, m, o, q⟩ => by
      rw [List.append_nil] at m
      rcases List.mem_cons.mp m with rfl | m
      · cases q; rfl
      · obtain ⟨v, d, rfl, _⟩ := sh_ents (Γ := ⟨H, B, [p]⟩) ra e m
        cases o
    have hNn : ∀ a, B a → Nn ⟨H, B, [p]⟩ (((V.ref p :: vs').map some).zip (Sl.io 0 d0 :: ds.map Sl.sh) ++ []) a := fun a b => ⟨b, fun z => hBp (own a z ▸ b)⟩
    have rel : Rel K ⟨H, B, [p]⟩ (((V.ref p :: vs').map some).zip (Sl.io 0 d0 :: ds.map Sl.sh)) [] H := by
      refine ⟨hB.1, fun a u h _ _ => h, fun a h => h, hB.2.1, hB.2.2, fun a m z => ?_, fun e m => ?_, ?_⟩
      · rcases List.mem_cons.mp m with rfl | m
        · exact hc.there z
        · cases m
      · rw [List.append_nil] at m
        rcases List.mem_cons.mp m with rfl | m
        · exact ⟨p, rfl, rfl, hc.mono (fun a n _ => hNn a n) (fun _ _ h _ => h) (fun _ _ _ h => h) fun _ h => h⟩
        · obtain ⟨v, d, rfl, r⟩ := sh_ents (Γ := ⟨H, B, [p]⟩) ra e m
          exact ⟨v, rfl, r.mono (fun a n _ => hNn a n) (fun _ _ h _ => h) fun _ _ _ h => h⟩
      · rw [List.append_nil]
        refine List.pairwise_cons.mpr ⟨fun y hy _ o => ?_, List.pairwise_of_forall_mem_list fun x hx y hy o => ?_⟩
        · obtain ⟨v, d, rfl, _⟩ := sh_ents (Γ := ⟨H, B, [p]⟩) ra y hy
          cases o
        · obtain ⟨v, d, rfl, _⟩ := sh_ents (Γ := ⟨H, B, [p]⟩) ra x hx
          cases o
    have rs := rel_start (N := N) (by rw [List.length_cons, List.length_cons, List.length_map]; exact congrArg Nat.succ ra.length) (fun s m => by
      rcases List.mem_cons.mp m with rfl | m
      · rfl
      · obtain ⟨d, _, rfl⟩ := List.mem_map.mp m; rfl) rel
    refine ⟨_, _, [], rs, (fun _ m => nomatch m), ?_⟩
    have ends : ∀ {σ δ γ H'}, RS K ⟨H, B, [p]⟩ σ δ γ H' → SameI K p H H' := fun r => ⟨fun a u hne t h => r.rel.keep a u h (fun z => by
      rcases List.mem_cons.mp z with z | z
      · exact hne z
      · cases z) t, r.rel.kfr, r.rel.tb⟩
    have cont : ∀ {σ δ γ H' k d1}, RS K ⟨H, B, [p]⟩ σ δ γ H' → δ[0]? = some (.io k d1) → Cn K (Nn ⟨H, B, [p]⟩ (σ.zip δ ++ γ)) H' p d1 := fun {σ δ γ H' k d1} r h => by
      obtain ⟨o, h1, h2⟩ := zip_at r.len.eq h
      obtain ⟨p', e, hi, c⟩ := r.rel.each _ (List.mem_append_left _ (List.mem_of_getElem? h2))
      have : p' = p := by
        cases k with
        | zero => exact (Option.some.inj hi).symm
        | succ k => cases hi
      rw [this] at c
      exact c
    rw [e1] at h
    unfold runI at h
    cases q : m (startD N.length (Sl.io 0 d0 :: ds.map .sh)) with
    | nx δ =>
      simp only [q] at h
      cases q3 : δ[0]? with
      | none => simp only [q3] at h
      | some s0 =>
        cases s0 with
        | io k d1 =>
          simp only [q3] at h
          exact fun σ H' r => h .non H' (ends r) ((cont r q3).mono (fun a n _ => ⟨n.1, fun z => by cases z⟩) (fun _ _ h _ => h) (fun _ _ _ h => h) fun _ h => h) .non
        | _ => simp only [q3] at h
    | rt r δ =>
      simp only [q] at h
      cases q2 : resOf r with
      | none => simp only [q2] at h
      | some sr =>
        cases q3 : δ[0]? with
        | none => simp only [q2, q3] at h
        | some s0 =>
          cases s0 with
          | io k d1 =>
            simp only [q2, q3] at h
            intro σ v H' r'
            have c := cont r' q3
            cases r with
            | sh d =>
              cases q2
              exact h v H' (ends r') (c.mono (fun a n _ => ⟨n.1, fun z => by cases z⟩) (fun _ _ h _ => h) (fun _ _ _ h => h) fun _ h => h) ((r'.get (List.mem_append_right _ List.mem_cons_self)).mono (fun a n _ => n.1) (fun _ _ h _ => h) fun _ _ _ h => h)
            | ow d =>
              cases q2
              obtain ⟨pn, e, h0, hBn, cn⟩ := r'.rel.each _ (List.mem_append_right _ List.mem_cons_self)
              cases e
              have own1 : OwnA (σ.zip δ ++ (some (V.ref pn), Sl.ow d) :: []) pn := ⟨_, List.mem_append_right _ List.mem_cons_self, rfl, rfl⟩
              refine h _ H' (ends r') (c.mono (fun a n _ => ⟨n.1, fun _ z => ?_⟩) (fun _ _ h _ => h) (fun _ _ _ h => h) fun _ h => h) ⟨pn, rfl, h0, cn.mono (fun a n _ => ⟨n.1, fun z => n.2 (z ▸ own1)⟩) (fun _ _ h _ => h) (fun _ _ _ h => h) fun _ h => h⟩
              cases z
              exact n.2 own1
            | raw y =>
              cases q2
              have e := r'.rel.each _ (List.mem_append_right _ List.mem_cons_self)
              exact h v H' (ends r') (c.mono (fun a n _ => ⟨n.1, fun z => by cases z⟩) (fun _ _ h _ => h) (fun _ _ _ h => h) fun _ h => h) (Option.some.inj e)
            | _ => cases q2
          | _ => simp only [q2, q3] at h
    | bk δ => simp only [q] at h
    | ct δ => simp only [q] at h
    | er e δ => simp only [q] at h
    | no => simp only [q] at h
end
end DL

set_option Elab.async false
set_option linter.all false
set_option maxRecDepth 100000
set_option maxHeartbeats 1000000
namespace DL
open PySem PySem.Spec PyProof.Rows L2

section
variable {X : Cx} {W : XW} {pos : Pos}
/-! ### chains, is None, slices -/
def boolOp (g : List PyData → Option Out) (x y : Sl) : M Bool := fun δ => match dats δ [x, y] with
  | some ds => match g ds with
    | some (.sh (.bool b)) => .ok b δ
    | _ => .no
  | none => .no
theorem run_bool {K : PySem.W.Frag} {Γ : Gm} {σ : L2.St} {γ γ' : List Ent} {δ : List Sl} {H : Hp} {r : R2} {g : List PyData → Option Out} {v w : V} {x y : Sl} {k : Bool → List Sl → Prop} {Q : VK} (hi : Impl K (L2r r) g) (r0 : RS K Γ σ δ γ H) (hx : (some v, x) ∈ γ) (hy : (some w, y) ∈ γ)
    (h : Post K W Γ σ γ' (boolOp g x y δ) k) (f : ∀ H' b, RS K Γ σ δ γ H' → k b δ → Q (.bl b) H') : r v w H Q := by
  unfold boolOp at h
  cases h1 : dats δ [x, y] with
  | none => simp only [h1] at h; exact False.elim h
  | some ds =>
    simp only [h1] at h
    have hm : ∀ e ∈ ([v, w].map some).zip [x, y], e ∈ γ := fun e m => by
      rcases List.mem_cons.mp m with rfl | m
      · exact hx
      · rcases List.mem_cons.mp m with rfl | m
        · exact hy
        · cases m
    cases h2 : g ds with
    | none => simp only [h2] at h; exact False.elim h
    | some o =>
      cases o with
      | nw d => simp only [h2] at h; exact False.elim h
      | sh d =>
        cases d with
        | bool b =>
          simp only [h2] at h
          refine hi _ H [v, w] ds _ Q (r0.tops hm rfl h1) h2 fun H' z s ok => ?_
          have ok' : R K _ H' z (.bool b) := ok
          cases ok'
          exact f H' b (r0.same s) h
        | _ => simp only [h2] at h; exact False.elim h
def chainM (g g' : List PyData → Option Out) (ma mb mc : M Sl) : M Sl := ma >>= fun x => mb >>= fun y => boolOp g x y >>= fun k => if k = true then mc >>= fun w => opM g' [y, w] else cM (.bool false)
theorem chain_read {K : PySem.W.Frag} {r r' : R2} {g g' : List PyData → Option Out} {ma mb mc : M Sl} (hi : Impl K (L2r r) g) (hi' : Impl K (L2r r') g') {σ : L2.St} {H : Hp} {Q : VK} (h : tV K W (chainM g g' ma mb mc) σ H Q) : tChain r r' (tV K W ma) (tV K W mb) (tV K W mc) σ H Q := by
  obtain ⟨Γ, δ, γ, r0, p⟩ := h
  refine ⟨Γ, δ, γ, r0, (Post.bind p).imp fun x δ1 p1 v H1 r1 => ⟨Γ, δ1, (some v, x) :: γ, r1, ((Post.bind p1).ext [(some v, x)]).imp fun y δ2 p2 w H2 r2 => ?_⟩⟩
  refine run_bool hi r2 (List.mem_cons_of_mem _ List.mem_cons_self) List.mem_cons_self (Post.bind p2) fun H3 b r3 p3 => ⟨b, rfl, ?_⟩
  cases b with
  | false =>
    rw [if_neg Bool.false_ne_true] at p3 ⊢
    exact p3 _ H3 ⟨r3.len, r3.pop.pop.rel.push rfl ⟨_, rfl, .bl _⟩⟩
  | true =>
    rw [if_pos rfl] at p3 ⊢
    refine ⟨Γ, δ2, (some w, y) :: (some v, x) :: γ, r3, ((Post.bind p3).ext [(some w, y), (some v, x)]).imp fun z δ3 p4 u H4 r4 => ?_⟩
    exact run_op hi' (vs := [w, u]) (rs := [y, z]) (γ' := γ) r4 (fun e m => by
      rcases List.mem_cons.mp m with rfl | m
      · exact List.mem_cons_of_mem _ List.mem_cons_self
      · rcases List.mem_cons.mp m with rfl | m
        · exact List.mem_cons_self
        · cases m) rfl (p4.imp fun s δ' k v' H'' r' => k v' H'' (drop1 (γ₀ := [(some u, z), (some w, y), (some v, x)]) r'))
theorem d_chain {op op' : CmpOp} {r r' : R2} {g g' : List PyData → Option Out} {a b c : Expr} {ma mb mc : M Sl} (ho : OpR X (compareOp op) r) (hi : Impl X.K (L2r r) g) (ho' : OpR X (compareOp op') r') (hi' : Impl X.K (L2r r') g') (ha : PE X a (tV X.K W ma)) (hb : PE X b (tV X.K W mb)) (hc : PE X c (tV X.K W mc))
    (hm : lastMarks [op, op'] [b, c] = false := by with_unfolding_all rfl) : PE X (.Compare a [op, op'] [b, c] pos) (tV X.K W (chainM g g' ma mb mc)) := PE.imp (pe_chain ho ho' ha hb hc hm) fun σ H Q h => chain_read hi hi' h
theorem dt_chain {op op' : CmpOp} {r r' : R2} {g g' : List PyData → Option Out} {a b c : Expr} {ma mb mc : M Sl} (ho : OpR X (compareOp op) r) (hi : Impl X.K (L2r r) g) (ho' : OpR X (compareOp op') r') (hi' : Impl X.K (L2r r') g') (ha : PE X a (tV X.K W ma)) (hb : PE X b (tV X.K W mb)) (hc : PE X c (tV X.K W mc))
    (hm : lastMarks [op, op'] [b, c] = false := by with_unfolding_all rfl) : PT X (.Compare a [op, op'] [b, c] pos) (tBo X.K W (tst (chainM g g' ma mb mc))) :=
  PT.imp (pt_chain ho ho' ha hb hc hm) fun σ H Q ⟨Γ, δ, γ, r, p⟩ => by
    have h : tV X.K W (chainM g g' ma mb mc) σ H (fun x H' => ∃ k, x = .bl k ∧ Q k H') := ⟨Γ, δ, γ, r, (Post.bind p).imp fun s δ1 p1 v H1 r1 => bool_at r1 p1⟩
    exact chain_read hi hi' h
def isNM (neg : Bool) (m : M Sl) : M Sl := m >>= fun s => fun δ => match datS δ s with
  | some .none => .ok (.sh (.bool (!neg))) δ
  | some _ => .ok (.sh (.bool neg)) δ
  | none => .no
theorem none_at {K : PySem.W.Frag} {N : Addr → Prop} {H : Hp} {v : V} {d : PyData} (h : Top K N H v d) : decide (v = .non) = (match d with
    | .none => true
    | _ => false) := by
  cases h with
  | val r => cases r <;> first
    | rfl
    | exact decide_eq_false (fun z => nomatch z)
  | own c => cases d <;> first
    | exact c.elim
    | exact decide_eq_false (fun z => nomatch z)
theorem isN_read {K : PySem.W.Frag} {neg : Bool} {m : M Sl} {σ : L2.St} {H : Hp} {Q : VK} (h : tV K W (isNM neg m) σ H Q) : tV K W m σ H fun x H1 => Q (.bl (if neg = true then !decide (x = .non) else decide (x = .non))) H1 := by
  obtain ⟨Γ, δ, γ, r, p⟩ := h
  refine ⟨Γ, δ, γ, r, (Post.bind p).imp fun s δ1 p1 v H1 r1 => ?_⟩
  cases h1 : datS δ1 s with
  | none => simp only [h1] at p1; exact False.elim p1
  | some d =>
    have e := none_at (r1.top List.mem_cons_self h1)
    have fin : ∀ b, RS K Γ σ δ1 ((some (.bl b), .sh (.bool b)) :: γ) H1 := fun b => ⟨r1.len, r1.pop.rel.push rfl ⟨_, rfl, .bl _⟩⟩
    rw [e]
    cases d <;> simp only [h1] at p1 <;> cases neg <;> exact p1 _ H1 (fin _)
theorem d_isN {a : Expr} {m : M Sl} {j pos'} (ha : PE X a (tV X.K W m)) : PE X (.Compare a [.Is] [.Constant .none j pos'] pos) (tV X.K W (isNM false m)) := PE.imp (pe_cmp (pc_isN ha)) fun σ H Q h => isN_read h
theorem d_notN {a : Expr} {m : M Sl} {j pos'} (ha : PE X a (tV X.K W m)) : PE X (.Compare a [.IsNot] [.Constant .none j pos'] pos) (tV X.K W (isNM true m)) := PE.imp (pe_cmp (pc_notN ha)) fun σ H Q h => isN_read h
theorem dt_isN {a : Expr} {m : M Sl} {j pos'} (ha : PE X a (tV X.K W m)) : PT X (.Compare a [.Is] [.Constant .none j pos'] pos) (tBo X.K W (tst (isNM false m))) :=
  PT.imp (pt_cmp (pc_isN ha)) fun σ H Q ⟨Γ, δ, γ, r, p⟩ => by
    have h : tV X.K W (isNM false m) σ H (fun x H' => ∃ k, x = .bl k ∧ Q k H') := ⟨Γ, δ, γ, r, (Post.bind p).imp fun s δ1 p1 v H1 r1 => bool_at r1 p1⟩
    exact isN_read h
theorem dt_notN {a : Expr} {m : M Sl} {j pos'} (ha : PE X a (tV X.K W m)) : PT X (.Compare a [.IsNot] [.Constant .none j pos'] pos) (tBo X.K W (tst (isNM true m))) :=
  PT.imp (pt_cmp (pc_notN ha)) fun σ H Q ⟨Γ, δ, γ, r, p⟩ => by
    have h : tV X.K W (isNM true m) σ H (fun x H' => ∃ k, x = .bl k ∧ Q k H') := ⟨Γ, δ, γ, r, (Post.bind p).imp fun s δ1 p1 v H1 r1 => bool_at r1 p1⟩
    exact isN_read h
/-- slices -/
def cutD (xs : List PyData) (lo hi : Option Int) : List PyData := (xs.drop (HT.sIx xs.length 0 lo)).take (HT.sIx xs.length xs.length hi - HT.sIx xs.length 0 lo)
def noP : M (Option Int) := fun δ => .ok none δ
def someP (m : M Sl) : M (Option Int) := m >>= fun s => fun δ => match s with
  | .sh (.int i) => .ok (some i) δ
  | _ => .no
def tPd (K : PySem.W.Frag) (W : XW) (m : M (Option Int)) : TO := fun σ H Q => ∃ Γ δ γ, RS K Γ σ δ γ H ∧ Post K W Γ σ γ (m δ) fun o δ' => ∀ H', RS K Γ σ δ' γ H' → Q o H'
theorem PO.imp {X : Cx} {e : Option Expr} {t t' : TO} (h : PO X e t) (f : ∀ σ H Q, t' σ H Q → t σ H Q) : PO X e t' := ⟨fun pins s σ H Q I q => h.run pins s σ H Q I (f _ _ _ q)⟩
theorem do_none : PO X none (tPd X.K W noP) := PO.imp po_none fun σ H Q ⟨Γ, δ, γ, r, p⟩ => p H r
theorem do_some {e : Expr} {m : M Sl} (h : PE X e (tV X.K W m)) : PO X (some e) (tPd X.K W (someP m)) := PO.imp (po_some h) fun σ H Q ⟨Γ, δ, γ, r, p⟩ => ⟨Γ, δ, γ, r, (Post.bind p).imp fun s δ1 p1 v H1 r1 => by
  cases s with
  | sh d => cases d with
    | int i => exact ⟨i, int_at r1 (List.mem_append_right _ List.mem_cons_self), p1 H1 r1.pop⟩
    | _ => exact False.elim p1
  | _ => exact False.elim p1⟩
def gSlice (lo hi : Option Int) : PyData → Option Out
  | .list l => some (.nw (.list (cutD l lo hi)))
  | .tuple l => some (.sh (.tuple (cutD l lo hi)))
  | .str z => if z.length ≤ 1000000 then some (.sh (.str (cutS z lo hi))) else none
  | _ => none
def sliceM (m : M Sl) (lo hi : M (Option Int)) : M Sl := m >>= fun s => lo >>= fun l => hi >>= fun h => opM (fun ds => match ds with
  | [d] => gSlice l h d
  | _ => none) [s]
def rSlA' (K : PySem.W.Frag) : V → Option Int → Option Int → Hp → VK → Prop := fun x lo hi H Q => (rSlL K x lo hi H Q ∨ (rSlA K x lo hi H Q ∨ rSlX K x lo hi H Q)) ∨ rSlS x lo hi H Q
theorem sl_all : SlR X (rSlA' X.K) := (sl_list.or (sl_tupA.or sl_tupX)).or sl_str
theorem RA.cut {K : PySem.W.Frag} {N : Addr → Prop} {H : Hp} {v : List V} {d : List PyData} (h : RA K N H v d) (lo hi : Option Int) : RA K N H (cutV v lo hi) (cutD d lo hi) := by
  unfold cutV cutD
  rw [h.length]
  exact (h.drop _).take _
theorem i_slice {K : PySem.W.Frag} (lo hi : Option Int) : Impl K (L1r fun x => rSlA' K x lo hi) (fun ds => match ds with
  | [d] => gSlice lo hi d
  | _ => none) := by
  intro N H vs ds o Q h g q
  dsimp only at g
  split at g
  · rename_i d
    obtain ⟨v, rfl, h1⟩ := h.one
    unfold gSlice at g
    split at g
    · cases g
      obtain ⟨a, xs, rfl, e1, r1⟩ := h1.list
      exact .inl (.inl ⟨a, xs, rfl, e1.sq, fun p hp => q _ _ (same_upd hp) ⟨p, rfl, hp, _, upd_same, (r1.cut lo hi).new (same_upd hp)⟩⟩)
    · cases g
      have k := h1.tupR
      obtain ⟨a, xs, rfl, e1, r1⟩ := h1.tup
      rename_i l
      by_cases hw : HT.sIx xs.length 0 lo = 0 ∧ HT.sIx xs.length xs.length hi = xs.length
      · refine .inl (.inr (.inl ⟨a, xs, rfl, e1, fun _ => ?_, fun z => absurd hw z⟩))
        rw [r1.length] at hw
        have e2 : cutD l lo hi = l := by
          unfold cutD
          rw [hw.1, hw.2]
          simp
        have q' := q H (.ref a) (.refl _)
        rw [e2] at q'
        exact q' (k.old (.refl _))
      · exact .inl (.inr (.inr ⟨a, xs, rfl, e1, hw, _, fun p o hp ho => q _ _ (same_upd hp) (.newT ho ((r1.cut lo hi).old (same_upd hp)))⟩))
    · split at g
      · rename_i hz
        cases g
        have := million
        exact .inr ⟨_, h1.str, by omega, q H _ (.refl _) (.str _)⟩
      · cases g
    · cases g
  · cases g
theorem d_slice {e : Expr} {lo hi : Option Expr} {p2 : Pos} {m : M Sl} {ml mh : M (Option Int)} (he : PE X e (tV X.K W m)) (hl : PO X lo (tPd X.K W ml)) (hh : PO X hi (tPd X.K W mh)) : PE X (.Subscript e (.Slice lo hi none p2) pos) (tV X.K W (sliceM m ml mh)) :=
  PE.imp (pe_slice sl_all he hl hh) fun σ H Q ⟨Γ, δ, γ, r, p⟩ => ⟨Γ, δ, γ, r, (Post.bind p).imp fun s δ1 p1 v H1 r1 => ⟨Γ, δ1, (some v, s) :: γ, r1, ((Post.bind p1).ext [(some v, s)]).imp fun l δ2 p2 H2 r2 => ⟨Γ, δ2, (some v, s) :: γ, r2, ((Post.bind p2).ext [(some v, s)]).imp fun h δ3 p3 H3 r3 =>
    run_op (i_slice l h) (vs := [v]) (rs := [s]) (γ' := γ) r3 (fun e m => by
      rcases List.mem_cons.mp m with rfl | m
      · exact List.mem_cons_self
      · cases m) rfl (p3.imp fun s' δ' k v' H'' r' => k v' H'' (drop1 (γ₀ := [(some v, s)]) r'))⟩⟩⟩
def gRev : List PyData → Option Out
  | [.list l] => some (.nw (.list l.reverse))
  | _ => none
theorem i_rev {K : PySem.W.Frag} : Impl K (L1r fun x H Q => ∃ a xs, x = .ref a ∧ SqL K H a xs ∧ ∀ p, H p = none → Q (.ref p) (upd H p (.lst xs.reverse))) gRev := by
  intro N H vs ds o Q h g q
  unfold gRev at g
  split at g
  · obtain ⟨v, rfl, h1⟩ := h.one
    cases g
    obtain ⟨a, xs, rfl, e1, r1⟩ := h1.list
    exact ⟨a, xs, rfl, e1.sq, fun p hp => q _ _ (same_upd hp) ⟨p, rfl, hp, _, upd_same, r1.rev.new (same_upd hp)⟩⟩
  · cases g
theorem d_rev {e : Expr} {m : M Sl} {k : Nat} {p1 p2 p3 : Pos} (he : PE X e (tV X.K W m)) : PE X (.Subscript e (.Slice none none (some (.UnaryOp .USub (.Constant (.int 1) k p1) p2)) p3) pos) (tV X.K W (mUn gRev m)) :=
  PE.imp (pe_revL he) fun σ H Q ⟨Γ, δ, γ, r, p⟩ => ⟨Γ, δ, γ, r, (Post.bind p).imp fun s δ1 p1 v H1 r1 =>
    run_op i_rev (vs := [v]) (rs := [s]) (γ' := γ) r1 (fun e m => by
      rcases List.mem_cons.mp m with rfl | m
      · exact List.mem_cons_self
      · cases m) rfl (p1.imp fun s' δ' k v' H'' r' => k v' H'' (drop1 (γ₀ := [(some v, s)]) r'))⟩
end
/-! ### texts: split, join; a tuple times an int -/
section
variable {K : PySem.W.Frag}
def gSplit : List PyData → Option Out
  | [.str a, .str b] => if (b.length == 0) = false ∧ a.length ≤ 1000000 then some (.nw (.list ((Txt.split a b).map .str))) else none
  | _ => none
theorem im_split : Impl K (Lmr fun x xs H Q => ∃ a b, x = .str a ∧ xs = [.str b] ∧ (b.length == 0) = false ∧ a.length + 2 ≤ sizeLine ∧ rNewStrs (Txt.split a b) H Q) gSplit := by
  intro N H vs ds o Q h g q
  unfold gSplit at g
  split at g
  · obtain ⟨v, w, rfl, h1, h2⟩ := h.two
    split at g
    · rename_i hz
      cases g
      have : (1000002 : Nat) ≤ sizeLine := by rw [sizeLine_eq]; decide
      exact ⟨_, _, h1.str, by rw [h2.str], hz.1, by omega, fun p hp => q _ _ (same_upd hp) ⟨p, rfl, hp, _, upd_same, ra_strs _⟩⟩
    · cases g
  · cases g
def gJoin : List PyData → Option Out
  | [.str a, .list l] => match strs? l with
    | some ys => if (ys.map (·.length)).sum + ys.length * a.length ≤ 16777216 then some (.sh (.str (Txt.join a ys))) else none
    | none => none
  | _ => none
theorem im_join : Impl K (Lmr fun x xs H Q => ∃ a p, ∃ ys : List Str, x = .str a ∧ xs = [.ref p] ∧ (SqL K H p (ys.map V.str) ∨ SqT K H p (ys.map V.str)) ∧
    (ys.map (·.length)).sum + ys.length * a.length ≤ 16777216 ∧ Q (.str (Txt.join a ys)) H) gJoin := by
  intro N H vs ds o Q h g q
  unfold gJoin at g
  split at g
  · obtain ⟨v, w, rfl, h1, h2⟩ := h.two
    obtain ⟨a, xs, rfl, e1, r1⟩ := h2.list
    split at g
    · rename_i ys hys
      split at g
      · rename_i hz
        cases g
        have e := strs_ra hys r1
        subst e
        exact ⟨_, a, ys, h1.str, rfl, .inl e1.sq, hz, q H _ (.refl _) (.str _)⟩
      · cases g
    · cases g
  · cases g
def rMulA (K : PySem.W.Frag) : R2 := fun x y H Q => rI CMulW (fun i j => .int (i * j)) x y H Q ∨ rRepT K x y H Q
theorem op_mulA {X : Cx} : OpR X (binaryOp .Mult) (rMulA X.K) := op_mulW.or op_repT
def gMulA : List PyData → Option Out
  | [.int i, .int j] => if mulOk i j = true then some (.sh (.int (i * j))) else none
  | [.tuple l, .int k] => if l ≠ [] ∧ 2 ≤ k ∧ k ≤ 1000 ∧ l.length ≤ 1000 ∧ keyish (List.replicate k.toNat l).flatten = true then some (.sh (.tuple (List.replicate k.toNat l).flatten)) else none
  | _ => none
theorem RA.rep {N : Addr → Prop} {H : Hp} {v : List V} {d : List PyData} (h : RA K N H v d) : ∀ n : Nat, RA K N H (List.replicate n v).flatten (List.replicate n d).flatten
  | 0 => .nil
  | n + 1 => by
    rw [List.replicate_succ, List.replicate_succ, List.flatten_cons, List.flatten_cons]
    exact h.append (RA.rep h n)
theorem i_mulA : Impl K (L2r (rMulA K)) gMulA := by
  intro N H vs ds o Q h g q
  unfold gMulA at g
  split at g
  · obtain ⟨v, w, rfl, h1, h2⟩ := h.two
    split at g
    · rename_i hz
      cases g
      exact .inl ⟨_, _, h1.int, h2.int, show _ < _ from of_decide_eq_true hz, q H _ (.refl _) (.int _)⟩
    · cases g
  · obtain ⟨v, w, rfl, h1, h2⟩ := h.two
    obtain ⟨a, xs, rfl, e1, r1⟩ := h1.tup
    rename_i l k
    split at g
    · rename_i hz
      cases g
      have hl := r1.length
      refine .inr ⟨a, k, xs, rfl, h2.int, e1, fun z => hz.1 (by rw [z] at hl; exact List.eq_nil_of_length_eq_zero hl.symm), hz.2.1, hz.2.2.1, by omega, fun p hp => q _ _ (same_upd hp) (.tup upd_same ((r1.rep _).old (same_upd hp)) hz.2.2.2.2)⟩
    · cases g
  · cases g
theorem call_listA {X : Cx} : CallR X (.type "list") (rListOf X.K) := call_list_of
abbrev gListA := gList
theorem i_listA : Impl K (rListOf K) gListA := i_list
end
end DL

set_option Elab.async false
set_option linter.all false
set_option maxRecDepth 100000
set_option maxHeartbeats 1000000
namespace DL
open PySem PySem.Spec PyProof.Rows L2

/-- the script as data -/
theorem script_R {K : PySem.W.Frag} {H : Hp} {a : Addr} {ns : List Int} (h : LL K H a (ns.map V.int)) : R K (fun _ => True) H (.ref a) (.list (ns.map .int)) := by
  rcases h with h | h
  · exact .lst True.intro h (ra_ints ns)
  · exact .lstK h (ra_ints ns)
/-- the script's list to the letter, where it lies in the written part -/
theorem ll_of {K : PySem.W.Frag} {h : Heap} {H : Hp} {a : Addr} {vs : List Value} {ns : List Int} (KX : K.In h) (ha : h.get? a = some { cls := .type "list", data := .seq vs.toArray }) (hi : IntsAre vs ns) (hl : ns.length ≤ sizeLine) (q : SqL K H a (ns.map V.int)) : LL K H a (ns.map V.int) := by
  rcases q with q | ⟨ob, items, n, hk, _⟩
  · exact .inl q
  · have e := KX a ob hk
    rw [ha] at e
    cases e
    exact .inr ⟨vs, _, hk, by rw [hi.length]; exact hl, vals_ints hi⟩
/-- what is known of the law at the head's heap -/
def LawD (l : PySem.W.OpenLaw) (w : World) (k : Nat) (x : Str) (Fl : List PyData → FRes) (mg : Str → Option Value) (fa : Addr) (h : Heap) : Prop :=
  ∃ (K : PySem.W.Frag) (fd : FuncData) (cl : Str → Value) (cs : List (Addr × Addr)), K.In h ∧ ((∀ p ∈ cs, h.get? p.2 = some { cls := .none, data := .fields #[] }) ∧ (∀ p ∈ cs, K.lookup p.2 = none) ∧ (∀ p ∈ cs, PySem.W.CodeHd h p.1 p.2) ∧ ∀ H : Hp, (∀ p ∈ cs, H p.2 = some (.tbl #[])) → Tb K H) ∧
    (∀ (s : Shared) (u : Value), BindsTo s fd ⟨[u], []⟩ [(x, u)]) ∧
      ∀ base : Heap, K.In base → base.Ns mainGlobals mg → (∀ p ∈ cs, LamX.TabB base mg p.1 p.2) → FnOk l.prog w K mg base (L2.CX l.prog w) k fa fd [x] (spP K cl Fl)
theorem walk_D {l : PySem.W.OpenLaw} {n k : Nat} {q : Program} {loose : List Str} {XP : (Str → Option Value) → Heap → Prop} {YP : World → Heap → Prop} {d : DefRec} {x : Str} {Fl : List PyData → FRes}
    (hn : l.most = some n) (hn2 : n ≤ sizeLine) (hdf : d.params.defaults = []) (hr : Room k callerA)
    (hlaw : ∀ ns : List Int, ns.length ≤ n → (∀ z ∈ ns, Builtin.Int.intBits z ≤ 1048576) → Fl [.list (ns.map .int)] = .ok (.sh (.bool true)) none)
    (F : ∀ (w : World) (mg : Str → Option Value) (fa : Addr) (h : Heap), YP w h → h.Ns mainGlobals mg → mg d.name = some (.ref fa) → LawD l w k x Fl mg fa h) :
    PySem.W.WalkO q loose XP YP l.row.toRowW d [] (fun f vs => PySem.call f vs) := by
  refine Att.attach_callB hn hdf fun w s₀ s₁ mg mb fa o pm cd doc a vs ns G Y ho hd hcd hmg hobj hints hlen hbits hg => ?_
  obtain ⟨K, fd, cl, cs, KX, ⟨hT, nT, C, hTb⟩, hb, hF⟩ := F w mg fa _ Y G.T.g hmg
  refine LamX.law_callTs KX G.T.g G.T.b G.T.builtins G.T.nolimit hg hT nT C G.T.bmain hobj hints (Nat.le_trans hlen hn2) hr hF hb (fun H hH hS => ?_) fun H e s' h => ?_
  · have tb := hTb H hH
    have hl := ll_of KX hobj hints (Nat.le_trans hlen hn2) hS
    refine ⟨fun a => True ∧ nt K a, [.list (ns.map .int)], ⟨fun p hp => ⟨True.intro, tb.nt fun ps z => by rw [hp] at z; cases z⟩, fun a n => n.2, tb⟩, .cons ((script_R hl).ntB tb) .nil, ?_⟩
    rw [hlaw ns hlen hbits]
    intro v H' _ ok
    have ok' : R K (fun a => True ∧ nt K a) H' v (.bool true) := ok
    cases ok'
    rfl
  · obtain ⟨_, _, _, _, _, _, _, _, _, _, _, _, z⟩ := (show L2.CX l.prog w [] H s₁ (fun _ _ _ => False) e s' from h)
    exact z.elim
end DL

set_option Elab.async false
set_option linter.all false
set_option maxRecDepth 100000
namespace DL
open PySem PySem.Spec PyProof.Rows L2
@[simp] theorem kit_ii : kitB "int" "int" = some true := by decide +kernel
@[simp] theorem kit_ib : kitB "int" "bool" = some false := by decide +kernel
@[simp] theorem kit_bi : kitB "bool" "int" = some true := by decide +kernel
@[simp] theorem kit_bb : kitB "bool" "bool" = some true := by decide +kernel
@[simp] theorem kit_is : kitB "int" "str" = some false := by decide +kernel
@[simp] theorem kit_il : kitB "int" "list" = some false := by decide +kernel
@[simp] theorem kit_it : kitB "int" "tuple" = some false := by decide +kernel
@[simp] theorem kit_bs : kitB "bool" "str" = some false := by decide +kernel
@[simp] theorem kit_bl : kitB "bool" "list" = some false := by decide +kernel
@[simp] theorem kit_bt : kitB "bool" "tuple" = some false := by decide +kernel
@[simp] theorem kit_ss : kitB "str" "str" = some true := by decide +kernel
@[simp] theorem kit_si : kitB "str" "int" = some false := by decide +kernel
@[simp] theorem kit_sb : kitB "str" "bool" = some false := by decide +kernel
@[simp] theorem kit_sl : kitB "str" "list" = some false := by decide +kernel
@[simp] theorem kit_st : kitB "str" "tuple" = some false := by decide +kernel
@[simp] theorem kit_li : kitB "list" "int" = some false := by decide +kernel
@[simp] theorem kit_lb : kitB "list" "bool" = some false := by decide +kernel
@[simp] theorem kit_ls : kitB "list" "str" = some false := by decide +kernel
@[simp] theorem kit_ll : kitB "list" "list" = some true := by decide +kernel
@[simp] theorem kit_lt : kitB "list" "tuple" = some false := by decide +kernel
@[simp] theorem kit_ti : kitB "tuple" "int" = some false := by decide +kernel
@[simp] theorem kit_tb : kitB "tuple" "bool" = some false := by decide +kernel
@[simp] theorem kit_ts : kitB "tuple" "str" = some false := by decide +kernel
@[simp] theorem kit_tl : kitB "tuple" "list" = some false := by decide +kernel
@[simp] theorem kit_tt : kitB "tuple" "tuple" = some true := by decide +kernel
@[simp] theorem kit_ni : kitB "NoneType" "int" = some false := by decide +kernel
@[simp] theorem kit_nb : kitB "NoneType" "bool" = some false := by decide +kernel
@[simp] theorem kit_ns : kitB "NoneType" "str" = some false := by decide +kernel
@[simp] theorem kit_nl : kitB "NoneType" "list" = some false := by decide +kernel
@[simp] theorem kit_nt : kitB "NoneType" "tuple" = some false := by decide +kernel
@[simp] theorem kit_di : kitB "dict" "int" = some false := by decide +kernel
@[simp] theorem kit_db : kitB "dict" "bool" = some false := by decide +kernel
@[simp] theorem kit_ds : kitB "dict" "str" = some false := by decide +kernel
@[simp] theorem kit_dl : kitB "dict" "list" = some false := by decide +kernel
@[simp] theorem kit_dt : kitB "dict" "tuple" = some false := by decide +kernel
@[simp] theorem tn_non : tyName .none = "NoneType" := id rfl
@[simp] theorem tn_b (b : Bool) : tyName (.bool b) = "bool" := id rfl
@[simp] theorem tn_i (b : Int) : tyName (.int b) = "int" := id rfl
@[simp] theorem tn_s (b : Str) : tyName (.str b) = "str" := id rfl
@[simp] theorem tn_l (b : List PyData) : tyName (.list b) = "list" := id rfl
@[simp] theorem tn_t (b : List PyData) : tyName (.tuple b) = "tuple" := id rfl
@[simp] theorem tn_d (b : List (PyData × PyData)) : tyName (.dict b) = "dict" := id rfl
end DL

set_option Elab.async false
set_option linter.all false
set_option maxRecDepth 100000
namespace DL
open PySem PySem.Spec PyProof.Rows L2
/-! ### the mirrors, read from the end -/
inductive Tk {β : Type} (q : β) : Type
  | mk : Tk q
inductive wM {α : Type} (x : Res α) (Q : α → List Sl → Prop) (tk : Tk Q := .mk) : Prop
  | mk (a : α) (δ : List Sl) (h : x = .ok a δ) (q : Q a δ) : wM x Q tk
inductive wS (x : SRes) (N : List Sl → Prop) (T : Sl → List Sl → Prop) (B C : List Sl → Prop) (tk : Tk (N, T, B, C) := .mk) : Prop
  | nx (δ : List Sl) (h : x = .nx δ) (q : N δ) : wS x N T B C tk
  | rt (r : Sl) (δ : List Sl) (h : x = .rt r δ) (q : T r δ) : wS x N T B C tk
  | bk (δ : List Sl) (h : x = .bk δ) (q : B δ) : wS x N T B C tk
  | ct (δ : List Sl) (h : x = .ct δ) (q : C δ) : wS x N T B C tk
inductive wO {α : Type} (x : Option α) (Q : α → Prop) (tk : Tk Q := .mk) : Prop
  | mk (a : α) (h : x = some a) (q : Q a) : wO x Q tk
inductive wG (x : Option Out) (δ : List Sl) (Q : Sl → List Sl → Prop) (tk : Tk Q := .mk) : Prop
  | mk (o : Out) (h : x = some o) (q : Q o.sl δ) : wG x δ Q tk
inductive wF (x : FRes) (Q : Sl → Prop) (tk : Tk Q := .mk) : Prop
  | mk (r : Sl) (h : x = .ok r none) (q : Q r) : wF x Q tk
inductive wI (x : FRes) (Q : Sl → PyData → Prop) (tk : Tk Q := .mk) : Prop
  | mk (r : Sl) (d : PyData) (h : x = .ok r (some d)) (q : Q r d) : wI x Q tk
section
variable {α : Type} {Q : α → List Sl → Prop} {N : List Sl → Prop} {T : Sl → List Sl → Prop} {B C : List Sl → Prop}
theorem wM_ok {a : α} {δ : List Sl} : wM (.ok a δ) Q = Q a δ := propext ⟨fun ⟨_, _, h, q⟩ => by cases h; exact q, fun q => ⟨_, _, rfl, q⟩⟩
theorem wM_er {e : Ex} {δ : List Sl} : wM (.er e δ) Q = False := propext ⟨fun ⟨_, _, h, q⟩ => (nomatch h), False.elim⟩
theorem wM_no : wM .no Q = False := propext ⟨fun ⟨_, _, h, q⟩ => (nomatch h), False.elim⟩
theorem wS_nx {δ : List Sl} : wS (.nx δ) N T B C = N δ := propext ⟨fun h => by cases h <;> rename_i h q <;> cases h; exact q, fun q => .nx _ rfl q⟩
theorem wS_rt {r : Sl} {δ : List Sl} : wS (.rt r δ) N T B C = T r δ := propext ⟨fun h => by cases h <;> rename_i h q <;> cases h; exact q, fun q => .rt _ _ rfl q⟩
theorem wS_bk {δ : List Sl} : wS (.bk δ) N T B C = B δ := propext ⟨fun h => by cases h <;> rename_i h q <;> cases h; exact q, fun q => .bk _ rfl q⟩
theorem wS_ct {δ : List Sl} : wS (.ct δ) N T B C = C δ := propext ⟨fun h => by cases h <;> rename_i h q <;> cases h; exact q, fun q => .ct _ rfl q⟩
theorem wS_er {e : Ex} {δ : List Sl} : wS (.er e δ) N T B C = False := propext ⟨fun h => by cases h <;> rename_i h q <;> (cases h), False.elim⟩
theorem wS_no : wS .no N T B C = False := propext ⟨fun h => by cases h <;> rename_i h q <;> (cases h), False.elim⟩
@[simp ↓] theorem wO_some {α : Type} (a : α) (Q : α → Prop) : wO (some a) Q = Q a := propext ⟨fun ⟨_, h, q⟩ => by cases h; exact q, fun q => ⟨_, rfl, q⟩⟩
@[simp ↓] theorem wO_none {α : Type} (Q : α → Prop) : wO none Q = False := propext ⟨fun ⟨_, h, q⟩ => (nomatch h), False.elim⟩
theorem wG_some {o : Out} {δ : List Sl} {Q : Sl → List Sl → Prop} : wG (some o) δ Q = Q o.sl δ := propext ⟨fun ⟨_, h, q⟩ => by cases h; exact q, fun q => ⟨_, rfl, q⟩⟩
theorem wG_none {δ : List Sl} {Q : Sl → List Sl → Prop} : wG none δ Q = False := propext ⟨fun ⟨_, h, q⟩ => (nomatch h), False.elim⟩
theorem wF_okn {r : Sl} {Q : Sl → Prop} : wF (.ok r none) Q = Q r := propext ⟨fun ⟨_, h, q⟩ => by cases h; exact q, fun q => ⟨_, rfl, q⟩⟩
theorem wF_oks {r : Sl} {d : PyData} {Q : Sl → Prop} : wF (.ok r (some d)) Q = False := propext ⟨fun ⟨_, h, q⟩ => (nomatch h), False.elim⟩
theorem wF_er {e : Ex} {Q : Sl → Prop} : wF (.er e) Q = False := propext ⟨fun ⟨_, h, q⟩ => (nomatch h), False.elim⟩
theorem wF_no {Q : Sl → Prop} : wF .no Q = False := propext ⟨fun ⟨_, h, q⟩ => (nomatch h), False.elim⟩
theorem wI_okn {r : Sl} {Q : Sl → PyData → Prop} : wI (.ok r none) Q = False := propext ⟨fun ⟨_, _, h, q⟩ => (nomatch h), False.elim⟩
theorem wI_oks {r : Sl} {d : PyData} {Q : Sl → PyData → Prop} : wI (.ok r (some d)) Q = Q r d := propext ⟨fun ⟨_, _, h, q⟩ => by cases h; exact q, fun q => ⟨_, _, rfl, q⟩⟩
theorem wI_er {e : Ex} {Q : Sl → PyData → Prop} : wI (.er e) Q = False := propext ⟨fun ⟨_, _, h, q⟩ => (nomatch h), False.elim⟩
theorem wI_no {Q : Sl → PyData → Prop} : wI .no Q = False := propext ⟨fun ⟨_, _, h, q⟩ => (nomatch h), False.elim⟩
end
theorem wM.mono {α : Type} {x : Res α} {Q Q' : α → List Sl → Prop} (h : wM x Q) (f : ∀ a δ, Q a δ → Q' a δ) : wM x Q' := let ⟨a, δ, e, q⟩ := h; ⟨a, δ, e, f _ _ q⟩
theorem wF.mono {x : FRes} {Q Q' : Sl → Prop} (h : wF x Q) (f : ∀ a, Q a → Q' a) : wF x Q' := let ⟨a, e, q⟩ := h; ⟨a, e, f _ q⟩
theorem wI.mono {x : FRes} {Q Q' : Sl → PyData → Prop} (h : wI x Q) (f : ∀ a d, Q a d → Q' a d) : wI x Q' := let ⟨a, d, e, q⟩ := h; ⟨a, d, e, f _ _ q⟩
theorem wO.mono {α : Type} {x : Option α} {Q Q' : α → Prop} (h : wO x Q) (f : ∀ a, Q a → Q' a) : wO x Q' := let ⟨a, e, q⟩ := h; ⟨a, e, f _ q⟩
theorem wS.mono {x : SRes} {N N' : List Sl → Prop} {T T' : Sl → List Sl → Prop} {B B' C C' : List Sl → Prop} (h : wS x N T B C) (hn : ∀ δ, N δ → N' δ) (ht : ∀ r δ, T r δ → T' r δ) (hb : ∀ δ, B δ → B' δ) (hc : ∀ δ, C δ → C' δ) : wS x N' T' B' C' := by
  cases h with
  | nx δ e q => exact .nx δ e (hn _ q)
  | rt r δ e q => exact .rt r δ e (ht _ _ q)
  | bk δ e q => exact .bk δ e (hb _ q)
  | ct δ e q => exact .ct δ e (hc _ q)
section
variable {α : Type} {Q : Sl → List Sl → Prop} {P : Bool → List Sl → Prop} {L : List Sl → List Sl → Prop} {U : List PyData → List Sl → Prop} {δ : List Sl} {m m' m2 : M Sl} {ms : M (List Sl)} {t u : M Bool} {g g' : List PyData → Option Out} {rs : List Sl}
theorem wM_bind {α β : Type} (x : M α) (f : α → M β) (δ : List Sl) (Q : β → List Sl → Prop) : wM ((x >>= f) δ) Q = wM (x δ) fun a δ' => wM (f a δ') Q := by
  show wM ((x δ).bind f) Q = _
  cases x δ <;> first | rfl | exact wM_no | exact wM_er | exact wM_ok | simp only [Res.bind, wM_ok, wM_er, wM_no, wS_nx, wS_rt, wS_bk, wS_ct, wS_er, wS_no, wO_some, wO_none, wG_some, wG_none, wF_okn, wF_oks, wF_er, wF_no, wI_okn, wI_oks, wI_er, wI_no] | (simp only [wM_ok, wM_er, wM_no, wS_nx, wS_rt, wS_bk, wS_ct, wS_er, wS_no, wO_some, wO_none, wG_some, wG_none, wF_okn, wF_oks, wF_er, wF_no, wI_okn, wI_oks, wI_er, wI_no]; exact wM_no) | (simp only [wM_ok, wM_er, wM_no, wS_nx, wS_rt, wS_bk, wS_ct, wS_er, wS_no, wO_some, wO_none, wG_some, wG_none, wF_okn, wF_oks, wF_er, wF_no, wI_okn, wI_oks, wI_er, wI_no, boolM]; done)
theorem wM_b {α β : Type} {x : M α} {f : α → M β} {δ : List Sl} {Q : β → List Sl → Prop} {R : α → List Sl → Prop} (h : ∀ a δ', wM (f a δ') Q = R a δ') : wM ((x >>= f) δ) Q = wM (x δ) R := by
  rw [wM_bind]
  have e : (fun a δ' => wM (f a δ') Q) = R := funext fun a => funext fun δ' => h a δ'
  rw [e]
theorem wM_q {α : Type} {x : Res α} {Q R : α → List Sl → Prop} (h : ∀ a δ', Q a δ' = R a δ') : wM x Q = wM x R := by
  have e : Q = R := funext fun a => funext fun δ' => h a δ'
  rw [e]
@[simp ↓] theorem wM_var (i : Nat) : wM (varM i δ) Q = match δ[i]? with
  | some (.sh d) => Q (.sh d) δ
  | some (.ow d) => Q (.sh d) (δ.set i (.sh d))
  | some (.raw v) => Q (.raw v) δ
  | _ => False := by
  cases h : δ[i]? with
  | none => simp [varM, h, wM_ok, wM_er, wM_no, wS_nx, wS_rt, wS_bk, wS_ct, wS_er, wS_no, wO_some, wO_none, wG_some, wG_none, wF_okn, wF_oks, wF_er, wF_no, wI_okn, wI_oks, wI_er, wI_no]
  | some s => cases s <;> simp [varM, h, wM_ok, wM_er, wM_no, wS_nx, wS_rt, wS_bk, wS_ct, wS_er, wS_no, wO_some, wO_none, wG_some, wG_none, wF_okn, wF_oks, wF_er, wF_no, wI_okn, wI_oks, wI_er, wI_no]
@[simp ↓] theorem wM_rd (i : Nat) : wM (rdM i δ) Q = match δ[i]? with
  | some (.sh d) => Q (.sh d) δ
  | some (.ow _) => Q (.al i) δ
  | some (.io _ _) => Q (.al i) δ
  | some (.raw v) => Q (.raw v) δ
  | some (.fr ds) => Q (.sh (.dict ds)) δ
  | _ => False := by
  cases h : δ[i]? with
  | none => simp [rdM, h, wM_ok, wM_er, wM_no, wS_nx, wS_rt, wS_bk, wS_ct, wS_er, wS_no, wO_some, wO_none, wG_some, wG_none, wF_okn, wF_oks, wF_er, wF_no, wI_okn, wI_oks, wI_er, wI_no]
  | some s => cases s <;> simp [rdM, h, wM_ok, wM_er, wM_no, wS_nx, wS_rt, wS_bk, wS_ct, wS_er, wS_no, wO_some, wO_none, wG_some, wG_none, wF_okn, wF_oks, wF_er, wF_no, wI_okn, wI_oks, wI_er, wI_no]
@[simp ↓] theorem wM_own (i : Nat) : wM (ownM i δ) Q = match δ[i]? with
  | some (.ow _) => Q (.al i) δ
  | some (.io _ _) => Q (.al i) δ
  | _ => False := by
  cases h : δ[i]? with
  | none => simp [ownM, h, wM_ok, wM_er, wM_no, wS_nx, wS_rt, wS_bk, wS_ct, wS_er, wS_no, wO_some, wO_none, wG_some, wG_none, wF_okn, wF_oks, wF_er, wF_no, wI_okn, wI_oks, wI_er, wI_no]
  | some s => cases s <;> simp [ownM, h, wM_ok, wM_er, wM_no, wS_nx, wS_rt, wS_bk, wS_ct, wS_er, wS_no, wO_some, wO_none, wG_some, wG_none, wF_okn, wF_oks, wF_er, wF_no, wI_okn, wI_oks, wI_er, wI_no]
@[simp ↓] theorem wM_c0 (d : PyData) : wM (cM d δ) Q = Q (.sh d) δ := by first | exact id rfl | exact wM_ok
@[simp ↓] theorem wM_op1 (x : Sl) : wM (opM g [x] δ) Q = match datS δ x with
  | some d => wG (g [d]) δ Q
  | none => False := by
  unfold opM dats
  cases datS δ x with
  | none => first | rfl | exact wM_no | exact wM_er | exact wM_ok | simp only [Res.bind, wM_ok, wM_er, wM_no, wS_nx, wS_rt, wS_bk, wS_ct, wS_er, wS_no, wO_some, wO_none, wG_some, wG_none, wF_okn, wF_oks, wF_er, wF_no, wI_okn, wI_oks, wI_er, wI_no] | (simp only [wM_ok, wM_er, wM_no, wS_nx, wS_rt, wS_bk, wS_ct, wS_er, wS_no, wO_some, wO_none, wG_some, wG_none, wF_okn, wF_oks, wF_er, wF_no, wI_okn, wI_oks, wI_er, wI_no]; exact wM_no) | (simp only [wM_ok, wM_er, wM_no, wS_nx, wS_rt, wS_bk, wS_ct, wS_er, wS_no, wO_some, wO_none, wG_some, wG_none, wF_okn, wF_oks, wF_er, wF_no, wI_okn, wI_oks, wI_er, wI_no, boolM]; done)
  | some d => show wM (match g [d] with
      | some o => .ok o.sl δ
      | none => .no) Q = wG (g [d]) δ Q; cases g [d] <;> first | rfl | exact wM_no | exact wM_er | exact wM_ok | simp only [Res.bind, wM_ok, wM_er, wM_no, wS_nx, wS_rt, wS_bk, wS_ct, wS_er, wS_no, wO_some, wO_none, wG_some, wG_none, wF_okn, wF_oks, wF_er, wF_no, wI_okn, wI_oks, wI_er, wI_no] | (simp only [wM_ok, wM_er, wM_no, wS_nx, wS_rt, wS_bk, wS_ct, wS_er, wS_no, wO_some, wO_none, wG_some, wG_none, wF_okn, wF_oks, wF_er, wF_no, wI_okn, wI_oks, wI_er, wI_no]; exact wM_no) | (simp only [wM_ok, wM_er, wM_no, wS_nx, wS_rt, wS_bk, wS_ct, wS_er, wS_no, wO_some, wO_none, wG_some, wG_none, wF_okn, wF_oks, wF_er, wF_no, wI_okn, wI_oks, wI_er, wI_no, boolM]; done)
@[simp ↓] theorem wM_op2 (x y : Sl) : wM (opM g [x, y] δ) Q = match datS δ x, datS δ y with
  | some d, some e => wG (g [d, e]) δ Q
  | _, _ => False := by
  unfold opM dats dats
  cases datS δ x with
  | none => first | rfl | exact wM_no | exact wM_er | exact wM_ok | simp only [Res.bind, wM_ok, wM_er, wM_no, wS_nx, wS_rt, wS_bk, wS_ct, wS_er, wS_no, wO_some, wO_none, wG_some, wG_none, wF_okn, wF_oks, wF_er, wF_no, wI_okn, wI_oks, wI_er, wI_no] | (simp only [wM_ok, wM_er, wM_no, wS_nx, wS_rt, wS_bk, wS_ct, wS_er, wS_no, wO_some, wO_none, wG_some, wG_none, wF_okn, wF_oks, wF_er, wF_no, wI_okn, wI_oks, wI_er, wI_no]; exact wM_no) | (simp only [wM_ok, wM_er, wM_no, wS_nx, wS_rt, wS_bk, wS_ct, wS_er, wS_no, wO_some, wO_none, wG_some, wG_none, wF_okn, wF_oks, wF_er, wF_no, wI_okn, wI_oks, wI_er, wI_no, boolM]; done)
  | some d => cases datS δ y with
    | none => first | rfl | exact wM_no | exact wM_er | exact wM_ok | simp only [Res.bind, wM_ok, wM_er, wM_no, wS_nx, wS_rt, wS_bk, wS_ct, wS_er, wS_no, wO_some, wO_none, wG_some, wG_none, wF_okn, wF_oks, wF_er, wF_no, wI_okn, wI_oks, wI_er, wI_no] | (simp only [wM_ok, wM_er, wM_no, wS_nx, wS_rt, wS_bk, wS_ct, wS_er, wS_no, wO_some, wO_none, wG_some, wG_none, wF_okn, wF_oks, wF_er, wF_no, wI_okn, wI_oks, wI_er, wI_no]; exact wM_no) | (simp only [wM_ok, wM_er, wM_no, wS_nx, wS_rt, wS_bk, wS_ct, wS_er, wS_no, wO_some, wO_none, wG_some, wG_none, wF_okn, wF_oks, wF_er, wF_no, wI_okn, wI_oks, wI_er, wI_no, boolM]; done)
    | some e => show wM (match g [d, e] with
      | some o => .ok o.sl δ
      | none => .no) Q = wG (g [d, e]) δ Q; cases g [d, e] <;> first | rfl | exact wM_no | exact wM_er | exact wM_ok | simp only [Res.bind, wM_ok, wM_er, wM_no, wS_nx, wS_rt, wS_bk, wS_ct, wS_er, wS_no, wO_some, wO_none, wG_some, wG_none, wF_okn, wF_oks, wF_er, wF_no, wI_okn, wI_oks, wI_er, wI_no] | (simp only [wM_ok, wM_er, wM_no, wS_nx, wS_rt, wS_bk, wS_ct, wS_er, wS_no, wO_some, wO_none, wG_some, wG_none, wF_okn, wF_oks, wF_er, wF_no, wI_okn, wI_oks, wI_er, wI_no]; exact wM_no) | (simp only [wM_ok, wM_er, wM_no, wS_nx, wS_rt, wS_bk, wS_ct, wS_er, wS_no, wO_some, wO_none, wG_some, wG_none, wF_okn, wF_oks, wF_er, wF_no, wI_okn, wI_oks, wI_er, wI_no, boolM]; done)
@[simp ↓] theorem wM_op3 (x y z : Sl) : wM (opM g [x, y, z] δ) Q = match datS δ x, datS δ y, datS δ z with
  | some d, some e, some f => wG (g [d, e, f]) δ Q
  | _, _, _ => False := by
  unfold opM dats dats dats
  cases datS δ x with
  | none => first | rfl | exact wM_no | exact wM_er | exact wM_ok | simp only [Res.bind, wM_ok, wM_er, wM_no, wS_nx, wS_rt, wS_bk, wS_ct, wS_er, wS_no, wO_some, wO_none, wG_some, wG_none, wF_okn, wF_oks, wF_er, wF_no, wI_okn, wI_oks, wI_er, wI_no] | (simp only [wM_ok, wM_er, wM_no, wS_nx, wS_rt, wS_bk, wS_ct, wS_er, wS_no, wO_some, wO_none, wG_some, wG_none, wF_okn, wF_oks, wF_er, wF_no, wI_okn, wI_oks, wI_er, wI_no]; exact wM_no) | (simp only [wM_ok, wM_er, wM_no, wS_nx, wS_rt, wS_bk, wS_ct, wS_er, wS_no, wO_some, wO_none, wG_some, wG_none, wF_okn, wF_oks, wF_er, wF_no, wI_okn, wI_oks, wI_er, wI_no, boolM]; done)
  | some d => cases datS δ y with
    | none => first | rfl | exact wM_no | exact wM_er | exact wM_ok | simp only [Res.bind, wM_ok, wM_er, wM_no, wS_nx, wS_rt, wS_bk, wS_ct, wS_er, wS_no, wO_some, wO_none, wG_some, wG_none, wF_okn, wF_oks, wF_er, wF_no, wI_okn, wI_oks, wI_er, wI_no] | (simp only [wM_ok, wM_er, wM_no, wS_nx, wS_rt, wS_bk, wS_ct, wS_er, wS_no, wO_some, wO_none, wG_some, wG_none, wF_okn, wF_oks, wF_er, wF_no, wI_okn, wI_oks, wI_er, wI_no]; exact wM_no) | (simp only [wM_ok, wM_er, wM_no, wS_nx, wS_rt, wS_bk, wS_ct, wS_er, wS_no, wO_some, wO_none, wG_some, wG_none, wF_okn, wF_oks, wF_er, wF_no, wI_okn, wI_oks, wI_er, wI_no, boolM]; done)
    | some e => cases datS δ z with
      | none => first | rfl | exact wM_no | exact wM_er | exact wM_ok | simp only [Res.bind, wM_ok, wM_er, wM_no, wS_nx, wS_rt, wS_bk, wS_ct, wS_er, wS_no, wO_some, wO_none, wG_some, wG_none, wF_okn, wF_oks, wF_er, wF_no, wI_okn, wI_oks, wI_er, wI_no] | (simp only [wM_ok, wM_er, wM_no, wS_nx, wS_rt, wS_bk, wS_ct, wS_er, wS_no, wO_some, wO_none, wG_some, wG_none, wF_okn, wF_oks, wF_er, wF_no, wI_okn, wI_oks, wI_er, wI_no]; exact wM_no) | (simp only [wM_ok, wM_er, wM_no, wS_nx, wS_rt, wS_bk, wS_ct, wS_er, wS_no, wO_some, wO_none, wG_some, wG_none, wF_okn, wF_oks, wF_er, wF_no, wI_okn, wI_oks, wI_er, wI_no, boolM]; done)
      | some f => show wM (match g [d, e, f] with
        | some o => .ok o.sl δ
        | none => .no) Q = wG (g [d, e, f]) δ Q; cases g [d, e, f] <;> first | rfl | exact wM_no | exact wM_er | exact wM_ok | simp only [Res.bind, wM_ok, wM_er, wM_no, wS_nx, wS_rt, wS_bk, wS_ct, wS_er, wS_no, wO_some, wO_none, wG_some, wG_none, wF_okn, wF_oks, wF_er, wF_no, wI_okn, wI_oks, wI_er, wI_no] | (simp only [wM_ok, wM_er, wM_no, wS_nx, wS_rt, wS_bk, wS_ct, wS_er, wS_no, wO_some, wO_none, wG_some, wG_none, wF_okn, wF_oks, wF_er, wF_no, wI_okn, wI_oks, wI_er, wI_no]; exact wM_no) | (simp only [wM_ok, wM_er, wM_no, wS_nx, wS_rt, wS_bk, wS_ct, wS_er, wS_no, wO_some, wO_none, wG_some, wG_none, wF_okn, wF_oks, wF_er, wF_no, wI_okn, wI_oks, wI_er, wI_no, boolM]; done)
@[simp] theorem datS_sh (d : PyData) : datS δ (.sh d) = some d := by first | exact id rfl | exact wM_ok
@[simp] theorem datS_ow (d : PyData) : datS δ (.ow d) = some d := by first | exact id rfl | exact wM_ok
@[simp] theorem datS_al (i : Nat) : datS δ (.al i) = match δ[i]? with
    | some (.sh d) => some d
    | some (.ow d) => some d
    | some (.io _ d) => some d
    | _ => none := by first | exact id rfl | exact wM_ok
@[simp] theorem esc_sh (d : PyData) : esc (.sh d) = some d := by first | exact id rfl | exact wM_ok
@[simp] theorem esc_ow (d : PyData) : esc (.ow d) = some d := by first | exact id rfl | exact wM_ok
@[simp] theorem escs_nil : escs [] = some [] := by first | exact id rfl | exact wM_ok
@[simp] theorem escs_cons (s : Sl) (r : List Sl) : escs (s :: r) = match esc s, escs r with
  | some d, some ds => some (d :: ds)
  | _, _ => none := by first | exact id rfl | exact wM_ok
@[simp ↓] theorem wM_bin : wM (mBin g m m' δ) Q = wM (m δ) fun x δ1 => wM (m' δ1) fun y δ2 => wM (opM g [x, y] δ2) Q := by
  unfold mBin; exact wM_b fun x δ1 => wM_b fun y δ2 => rfl
@[simp ↓] theorem wM_un : wM (mUn g m δ) Q = wM (m δ) fun x δ1 => wM (opM g [x] δ1) Q := by unfold mUn; exact wM_b fun _ _ => rfl
@[simp ↓] theorem wM_nil : wM (mNil δ) L = L [] δ := by first | exact id rfl | exact wM_ok
@[simp ↓] theorem wM_cons : wM (mCons m ms δ) L = wM (m δ) fun x δ1 => wM (ms δ1) fun xs δ2 => L (x :: xs) δ2 := by
  unfold mCons; exact wM_b fun _ _ => wM_b fun _ _ => wM_ok
@[simp ↓] theorem wM_call : wM (mCall g ms δ) Q = wM (ms δ) fun rs δ1 => wM (opM g rs δ1) Q := by unfold mCall; exact wM_b fun _ _ => rfl
@[simp ↓] theorem wM_tup : wM ((ms >>= tupM) δ) Q = wM (ms δ) fun rs δ1 => match escs rs with
  | some ds => ds.length ≤ 1000000 ∧ Q (.sh (.tuple ds)) δ1
  | none => False := by
  refine wM_b fun rs δ1 => ?_; unfold tupM
  cases escs rs with
  | none => first | rfl | exact wM_no | exact wM_er | exact wM_ok | simp only [Res.bind, wM_ok, wM_er, wM_no, wS_nx, wS_rt, wS_bk, wS_ct, wS_er, wS_no, wO_some, wO_none, wG_some, wG_none, wF_okn, wF_oks, wF_er, wF_no, wI_okn, wI_oks, wI_er, wI_no] | (simp only [wM_ok, wM_er, wM_no, wS_nx, wS_rt, wS_bk, wS_ct, wS_er, wS_no, wO_some, wO_none, wG_some, wG_none, wF_okn, wF_oks, wF_er, wF_no, wI_okn, wI_oks, wI_er, wI_no]; exact wM_no) | (simp only [wM_ok, wM_er, wM_no, wS_nx, wS_rt, wS_bk, wS_ct, wS_er, wS_no, wO_some, wO_none, wG_some, wG_none, wF_okn, wF_oks, wF_er, wF_no, wI_okn, wI_oks, wI_er, wI_no, boolM]; done)
  | some ds => by_cases h : ds.length ≤ 1000000 <;> simp [h, wM_ok, wM_er, wM_no, wS_nx, wS_rt, wS_bk, wS_ct, wS_er, wS_no, wO_some, wO_none, wG_some, wG_none, wF_okn, wF_oks, wF_er, wF_no, wI_okn, wI_oks, wI_er, wI_no]
@[simp ↓] theorem wM_lst : wM ((ms >>= lstM) δ) Q = wM (ms δ) fun rs δ1 => match escs rs with
  | some ds => ds.length ≤ 1000000 ∧ Q (.ow (.list ds)) δ1
  | none => False := by
  refine wM_b fun rs δ1 => ?_; unfold lstM
  cases escs rs with
  | none => first | rfl | exact wM_no | exact wM_er | exact wM_ok | simp only [Res.bind, wM_ok, wM_er, wM_no, wS_nx, wS_rt, wS_bk, wS_ct, wS_er, wS_no, wO_some, wO_none, wG_some, wG_none, wF_okn, wF_oks, wF_er, wF_no, wI_okn, wI_oks, wI_er, wI_no] | (simp only [wM_ok, wM_er, wM_no, wS_nx, wS_rt, wS_bk, wS_ct, wS_er, wS_no, wO_some, wO_none, wG_some, wG_none, wF_okn, wF_oks, wF_er, wF_no, wI_okn, wI_oks, wI_er, wI_no]; exact wM_no) | (simp only [wM_ok, wM_er, wM_no, wS_nx, wS_rt, wS_bk, wS_ct, wS_er, wS_no, wO_some, wO_none, wG_some, wG_none, wF_okn, wF_oks, wF_er, wF_no, wI_okn, wI_oks, wI_er, wI_no, boolM]; done)
  | some ds => by_cases h : ds.length ≤ 1000000 <;> simp [h, wM_ok, wM_er, wM_no, wS_nx, wS_rt, wS_bk, wS_ct, wS_er, wS_no, wO_some, wO_none, wG_some, wG_none, wF_okn, wF_oks, wF_er, wF_no, wI_okn, wI_oks, wI_er, wI_no]
@[simp ↓] theorem wM_callP (F : List PyData → FRes) : wM ((ms >>= callP F) δ) Q = wM (ms δ) fun rs δ1 => match escs rs with
  | some ds => wF (F ds) fun r => Q r δ1
  | none => False := by
  refine wM_b fun rs δ1 => ?_; unfold callP
  cases escs rs with
  | none => first | rfl | exact wM_no | exact wM_er | exact wM_ok | simp only [Res.bind, wM_ok, wM_er, wM_no, wS_nx, wS_rt, wS_bk, wS_ct, wS_er, wS_no, wO_some, wO_none, wG_some, wG_none, wF_okn, wF_oks, wF_er, wF_no, wI_okn, wI_oks, wI_er, wI_no] | (simp only [wM_ok, wM_er, wM_no, wS_nx, wS_rt, wS_bk, wS_ct, wS_er, wS_no, wO_some, wO_none, wG_some, wG_none, wF_okn, wF_oks, wF_er, wF_no, wI_okn, wI_oks, wI_er, wI_no]; exact wM_no) | (simp only [wM_ok, wM_er, wM_no, wS_nx, wS_rt, wS_bk, wS_ct, wS_er, wS_no, wO_some, wO_none, wG_some, wG_none, wF_okn, wF_oks, wF_er, wF_no, wI_okn, wI_oks, wI_er, wI_no, boolM]; done)
  | some ds => show wM (match F ds with
      | .ok r none => .ok r δ1
      | .er e => if e.val.isNone = true then .er e δ1 else .no
      | _ => .no) Q = wF (F ds) fun r => Q r δ1; cases F ds with
    | ok r o => cases o <;> first | rfl | exact wM_no | exact wM_er | exact wM_ok | simp only [Res.bind, wM_ok, wM_er, wM_no, wS_nx, wS_rt, wS_bk, wS_ct, wS_er, wS_no, wO_some, wO_none, wG_some, wG_none, wF_okn, wF_oks, wF_er, wF_no, wI_okn, wI_oks, wI_er, wI_no] | (simp only [wM_ok, wM_er, wM_no, wS_nx, wS_rt, wS_bk, wS_ct, wS_er, wS_no, wO_some, wO_none, wG_some, wG_none, wF_okn, wF_oks, wF_er, wF_no, wI_okn, wI_oks, wI_er, wI_no]; exact wM_no) | (simp only [wM_ok, wM_er, wM_no, wS_nx, wS_rt, wS_bk, wS_ct, wS_er, wS_no, wO_some, wO_none, wG_some, wG_none, wF_okn, wF_oks, wF_er, wF_no, wI_okn, wI_oks, wI_er, wI_no, boolM]; done)
    | er e =>
      rw [wF_er]
      show wM (if e.val.isNone = true then .er e δ1 else .no) Q = False
      by_cases h : e.val.isNone = true
      · rw [if_pos h]; exact wM_er
      · rw [if_neg h]; exact wM_no
    | no => first | rfl | exact wM_no | exact wM_er | exact wM_ok | simp only [Res.bind, wM_ok, wM_er, wM_no, wS_nx, wS_rt, wS_bk, wS_ct, wS_er, wS_no, wO_some, wO_none, wG_some, wG_none, wF_okn, wF_oks, wF_er, wF_no, wI_okn, wI_oks, wI_er, wI_no] | (simp only [wM_ok, wM_er, wM_no, wS_nx, wS_rt, wS_bk, wS_ct, wS_er, wS_no, wO_some, wO_none, wG_some, wG_none, wF_okn, wF_oks, wF_er, wF_no, wI_okn, wI_oks, wI_er, wI_no]; exact wM_no) | (simp only [wM_ok, wM_er, wM_no, wS_nx, wS_rt, wS_bk, wS_ct, wS_er, wS_no, wO_some, wO_none, wG_some, wG_none, wF_okn, wF_oks, wF_er, wF_no, wI_okn, wI_oks, wI_er, wI_no, boolM]; done)
def wCI (F : PyData → List PyData → FRes) (δ : List Sl) (rs : List Sl) (Q : Sl → List Sl → Prop) (_ : Tk Q := .mk) : Prop := match rs with
  | .al i :: rs' => match δ[i]?, escs rs' with
    | some (.ow d), some ds => wI (F d ds) fun r d1 => Q r (δ.set i (.ow d1))
    | some (.io k d), some ds => wI (F d ds) fun r d1 => Q r (δ.set i (.io k d1))
    | _, _ => False
  | _ => False
@[simp ↓] theorem wCI_al (F : PyData → List PyData → FRes) (i : Nat) : wCI F δ (.al i :: rs) Q = match δ[i]?, escs rs with
    | some (.ow d), some ds => wI (F d ds) fun r d1 => Q r (δ.set i (.ow d1))
    | some (.io k d), some ds => wI (F d ds) fun r d1 => Q r (δ.set i (.io k d1))
    | _, _ => False := by first | exact id rfl | exact wM_ok
theorem wI_run {x : FRes} {f : PyData → List Sl} : wM (match x with
      | .ok r (some d1) => .ok r (f d1)
      | _ => .no) Q = wI x fun r d1 => Q r (f d1) := by
  cases x with
  | ok r o => cases o <;> first | rfl | exact wM_no | exact wM_er | exact wM_ok | simp only [Res.bind, wM_ok, wM_er, wM_no, wS_nx, wS_rt, wS_bk, wS_ct, wS_er, wS_no, wO_some, wO_none, wG_some, wG_none, wF_okn, wF_oks, wF_er, wF_no, wI_okn, wI_oks, wI_er, wI_no] | (simp only [wM_ok, wM_er, wM_no, wS_nx, wS_rt, wS_bk, wS_ct, wS_er, wS_no, wO_some, wO_none, wG_some, wG_none, wF_okn, wF_oks, wF_er, wF_no, wI_okn, wI_oks, wI_er, wI_no]; exact wM_no) | (simp only [wM_ok, wM_er, wM_no, wS_nx, wS_rt, wS_bk, wS_ct, wS_er, wS_no, wO_some, wO_none, wG_some, wG_none, wF_okn, wF_oks, wF_er, wF_no, wI_okn, wI_oks, wI_er, wI_no, boolM]; done)
  | _ => first | rfl | exact wM_no | exact wM_er | exact wM_ok | simp only [Res.bind, wM_ok, wM_er, wM_no, wS_nx, wS_rt, wS_bk, wS_ct, wS_er, wS_no, wO_some, wO_none, wG_some, wG_none, wF_okn, wF_oks, wF_er, wF_no, wI_okn, wI_oks, wI_er, wI_no] | (simp only [wM_ok, wM_er, wM_no, wS_nx, wS_rt, wS_bk, wS_ct, wS_er, wS_no, wO_some, wO_none, wG_some, wG_none, wF_okn, wF_oks, wF_er, wF_no, wI_okn, wI_oks, wI_er, wI_no]; exact wM_no) | (simp only [wM_ok, wM_er, wM_no, wS_nx, wS_rt, wS_bk, wS_ct, wS_er, wS_no, wO_some, wO_none, wG_some, wG_none, wF_okn, wF_oks, wF_er, wF_no, wI_okn, wI_oks, wI_er, wI_no, boolM]; done)
@[simp ↓] theorem wM_callI (F : PyData → List PyData → FRes) : wM ((ms >>= callI F) δ) Q = wM (ms δ) fun rs δ1 => wCI F δ1 rs Q := by
  refine wM_b fun rs δ1 => ?_; unfold callI wCI
  cases rs with
  | nil => first | rfl | exact wM_no | exact wM_er | exact wM_ok | simp only [Res.bind, wM_ok, wM_er, wM_no, wS_nx, wS_rt, wS_bk, wS_ct, wS_er, wS_no, wO_some, wO_none, wG_some, wG_none, wF_okn, wF_oks, wF_er, wF_no, wI_okn, wI_oks, wI_er, wI_no] | (simp only [wM_ok, wM_er, wM_no, wS_nx, wS_rt, wS_bk, wS_ct, wS_er, wS_no, wO_some, wO_none, wG_some, wG_none, wF_okn, wF_oks, wF_er, wF_no, wI_okn, wI_oks, wI_er, wI_no]; exact wM_no) | (simp only [wM_ok, wM_er, wM_no, wS_nx, wS_rt, wS_bk, wS_ct, wS_er, wS_no, wO_some, wO_none, wG_some, wG_none, wF_okn, wF_oks, wF_er, wF_no, wI_okn, wI_oks, wI_er, wI_no, boolM]; done)
  | cons s r => cases s with
    | al i =>
      show wM (match δ1[i]?, escs r with
        | some s, some ds => if s.own = true then match F s.dat ds with
          | .ok r (some d1) => .ok r (δ1.set i (s.setD d1))
          | _ => .no
          else .no
        | _, _ => .no) Q = (match δ1[i]?, escs r with
    | some (.ow d), some ds => wI (F d ds) fun r d1 => Q r (δ1.set i (.ow d1))
    | some (.io k d), some ds => wI (F d ds) fun r d1 => Q r (δ1.set i (.io k d1))
    | _, _ => False)
      cases δ1[i]? with
      | none => first | rfl | exact wM_no | exact wM_er | exact wM_ok | simp only [Res.bind, wM_ok, wM_er, wM_no, wS_nx, wS_rt, wS_bk, wS_ct, wS_er, wS_no, wO_some, wO_none, wG_some, wG_none, wF_okn, wF_oks, wF_er, wF_no, wI_okn, wI_oks, wI_er, wI_no] | (simp only [wM_ok, wM_er, wM_no, wS_nx, wS_rt, wS_bk, wS_ct, wS_er, wS_no, wO_some, wO_none, wG_some, wG_none, wF_okn, wF_oks, wF_er, wF_no, wI_okn, wI_oks, wI_er, wI_no]; exact wM_no) | (simp only [wM_ok, wM_er, wM_no, wS_nx, wS_rt, wS_bk, wS_ct, wS_er, wS_no, wO_some, wO_none, wG_some, wG_none, wF_okn, wF_oks, wF_er, wF_no, wI_okn, wI_oks, wI_er, wI_no, boolM]; done)
      | some s => cases escs r with
        | none => cases s <;> first | rfl | exact wM_no | exact wM_er | exact wM_ok | simp only [Res.bind, wM_ok, wM_er, wM_no, wS_nx, wS_rt, wS_bk, wS_ct, wS_er, wS_no, wO_some, wO_none, wG_some, wG_none, wF_okn, wF_oks, wF_er, wF_no, wI_okn, wI_oks, wI_er, wI_no] | (simp only [wM_ok, wM_er, wM_no, wS_nx, wS_rt, wS_bk, wS_ct, wS_er, wS_no, wO_some, wO_none, wG_some, wG_none, wF_okn, wF_oks, wF_er, wF_no, wI_okn, wI_oks, wI_er, wI_no]; exact wM_no) | (simp only [wM_ok, wM_er, wM_no, wS_nx, wS_rt, wS_bk, wS_ct, wS_er, wS_no, wO_some, wO_none, wG_some, wG_none, wF_okn, wF_oks, wF_er, wF_no, wI_okn, wI_oks, wI_er, wI_no, boolM]; done)
        | some ds => cases s with
          | ow d => exact wI_run
          | io k d => exact wI_run
          | _ => first | rfl | exact wM_no | exact wM_er | exact wM_ok | simp only [Res.bind, wM_ok, wM_er, wM_no, wS_nx, wS_rt, wS_bk, wS_ct, wS_er, wS_no, wO_some, wO_none, wG_some, wG_none, wF_okn, wF_oks, wF_er, wF_no, wI_okn, wI_oks, wI_er, wI_no] | (simp only [wM_ok, wM_er, wM_no, wS_nx, wS_rt, wS_bk, wS_ct, wS_er, wS_no, wO_some, wO_none, wG_some, wG_none, wF_okn, wF_oks, wF_er, wF_no, wI_okn, wI_oks, wI_er, wI_no]; exact wM_no) | (simp only [wM_ok, wM_er, wM_no, wS_nx, wS_rt, wS_bk, wS_ct, wS_er, wS_no, wO_some, wO_none, wG_some, wG_none, wF_okn, wF_oks, wF_er, wF_no, wI_okn, wI_oks, wI_er, wI_no, boolM]; done)
    | _ => first | rfl | exact wM_no | exact wM_er | exact wM_ok | simp only [Res.bind, wM_ok, wM_er, wM_no, wS_nx, wS_rt, wS_bk, wS_ct, wS_er, wS_no, wO_some, wO_none, wG_some, wG_none, wF_okn, wF_oks, wF_er, wF_no, wI_okn, wI_oks, wI_er, wI_no] | (simp only [wM_ok, wM_er, wM_no, wS_nx, wS_rt, wS_bk, wS_ct, wS_er, wS_no, wO_some, wO_none, wG_some, wG_none, wF_okn, wF_oks, wF_er, wF_no, wI_okn, wI_oks, wI_er, wI_no]; exact wM_no) | (simp only [wM_ok, wM_er, wM_no, wS_nx, wS_rt, wS_bk, wS_ct, wS_er, wS_no, wO_some, wO_none, wG_some, wG_none, wF_okn, wF_oks, wF_er, wF_no, wI_okn, wI_oks, wI_er, wI_no, boolM]; done)
@[simp ↓] theorem wM_bl (b : Bool) : wM (boolM (.sh (.bool b)) δ) P = P b δ := by first | exact id rfl | exact wM_ok
@[simp ↓] theorem wM_tst : wM (tst m δ) P = wM (m δ) fun s δ1 => wM (boolM s δ1) P := by unfold tst; exact wM_b fun _ _ => rfl
@[simp ↓] theorem wM_not : wM (bNot t δ) P = wM (t δ) fun b δ1 => P (!b) δ1 := by unfold bNot; exact wM_b fun _ _ => wM_ok
@[simp ↓] theorem wM_and : wM (bAnd t u δ) P = wM (t δ) fun b δ1 => (b = true → wM (u δ1) P) ∧ (b = false → P false δ1) := by
  unfold bAnd; refine wM_b fun b δ1 => ?_; cases b <;> simp [wM_ok, wM_er, wM_no, wS_nx, wS_rt, wS_bk, wS_ct, wS_er, wS_no, wO_some, wO_none, wG_some, wG_none, wF_okn, wF_oks, wF_er, wF_no, wI_okn, wI_oks, wI_er, wI_no, pure, M.pure]
@[simp ↓] theorem wM_or : wM (bOr t u δ) P = wM (t δ) fun b δ1 => (b = true → P true δ1) ∧ (b = false → wM (u δ1) P) := by
  unfold bOr; refine wM_b fun b δ1 => ?_; cases b <;> simp [wM_ok, wM_er, wM_no, wS_nx, wS_rt, wS_bk, wS_ct, wS_er, wS_no, wO_some, wO_none, wG_some, wG_none, wF_okn, wF_oks, wF_er, wF_no, wI_okn, wI_oks, wI_er, wI_no, pure, M.pure]
@[simp ↓] theorem wM_andV : wM (andV m m' δ) Q = wM (m δ) fun s δ0 => wM (boolM s δ0) fun b δ1 => (b = true → wM (m' δ1) Q) ∧ (b = false → Q (.sh (.bool false)) δ1) := by
  unfold andV; refine wM_b fun s δ0 => ?_; refine wM_b fun b δ1 => ?_; cases b <;> simp [wM_ok, wM_er, wM_no, wS_nx, wS_rt, wS_bk, wS_ct, wS_er, wS_no, wO_some, wO_none, wG_some, wG_none, wF_okn, wF_oks, wF_er, wF_no, wI_okn, wI_oks, wI_er, wI_no, cM]
@[simp ↓] theorem wM_orV : wM (orV m m' δ) Q = wM (m δ) fun s δ0 => wM (boolM s δ0) fun b δ1 => (b = true → Q (.sh (.bool true)) δ1) ∧ (b = false → wM (m' δ1) Q) := by
  unfold orV; refine wM_b fun s δ0 => ?_; refine wM_b fun b δ1 => ?_; cases b <;> simp [wM_ok, wM_er, wM_no, wS_nx, wS_rt, wS_bk, wS_ct, wS_er, wS_no, wO_some, wO_none, wG_some, wG_none, wF_okn, wF_oks, wF_er, wF_no, wI_okn, wI_oks, wI_er, wI_no, cM]
@[simp ↓] theorem wM_notV : wM (notV m δ) Q = wM (m δ) fun s δ0 => wM (boolM s δ0) fun b δ1 => Q (.sh (.bool (!b))) δ1 := by
  unfold notV; refine wM_b fun s δ0 => ?_; exact wM_b fun _ _ => wM_ok
@[simp ↓] theorem wM_ifV : wM (ifV t m m' δ) Q = wM (t δ) fun b δ1 => (b = true → wM (m δ1) Q) ∧ (b = false → wM (m' δ1) Q) := by
  unfold ifV; refine wM_b fun b δ1 => ?_; cases b <;> simp
@[simp ↓] theorem wM_is (T : String) : wM (isM T m δ) Q = wM (m δ) fun s δ1 => match datS δ1 s with
  | some d => wO (tyB d T) fun b => Q (.sh (.bool b)) δ1
  | none => False := by
  unfold isM; refine wM_b fun s δ1 => ?_
  cases datS δ1 s with
  | none => first | rfl | exact wM_no | exact wM_er | exact wM_ok | simp only [Res.bind, wM_ok, wM_er, wM_no, wS_nx, wS_rt, wS_bk, wS_ct, wS_er, wS_no, wO_some, wO_none, wG_some, wG_none, wF_okn, wF_oks, wF_er, wF_no, wI_okn, wI_oks, wI_er, wI_no] | (simp only [wM_ok, wM_er, wM_no, wS_nx, wS_rt, wS_bk, wS_ct, wS_er, wS_no, wO_some, wO_none, wG_some, wG_none, wF_okn, wF_oks, wF_er, wF_no, wI_okn, wI_oks, wI_er, wI_no]; exact wM_no) | (simp only [wM_ok, wM_er, wM_no, wS_nx, wS_rt, wS_bk, wS_ct, wS_er, wS_no, wO_some, wO_none, wG_some, wG_none, wF_okn, wF_oks, wF_er, wF_no, wI_okn, wI_oks, wI_er, wI_no, boolM]; done)
  | some d => show wM (match tyB d T with
      | some b => .ok (.sh (.bool b)) δ1
      | none => .no) Q = wO (tyB d T) fun b => Q (.sh (.bool b)) δ1; cases tyB d T <;> first | rfl | exact wM_no | exact wM_er | exact wM_ok | simp only [Res.bind, wM_ok, wM_er, wM_no, wS_nx, wS_rt, wS_bk, wS_ct, wS_er, wS_no, wO_some, wO_none, wG_some, wG_none, wF_okn, wF_oks, wF_er, wF_no, wI_okn, wI_oks, wI_er, wI_no] | (simp only [wM_ok, wM_er, wM_no, wS_nx, wS_rt, wS_bk, wS_ct, wS_er, wS_no, wO_some, wO_none, wG_some, wG_none, wF_okn, wF_oks, wF_er, wF_no, wI_okn, wI_oks, wI_er, wI_no]; exact wM_no) | (simp only [wM_ok, wM_er, wM_no, wS_nx, wS_rt, wS_bk, wS_ct, wS_er, wS_no, wO_some, wO_none, wG_some, wG_none, wF_okn, wF_oks, wF_er, wF_no, wI_okn, wI_oks, wI_er, wI_no, boolM]; done)
@[simp ↓] theorem wM_isN (neg : Bool) : wM (isNM neg m δ) Q = wM (m δ) fun s δ1 => match datS δ1 s with
  | some .none => Q (.sh (.bool (!neg))) δ1
  | some _ => Q (.sh (.bool neg)) δ1
  | none => False := by
  unfold isNM; refine wM_b fun s δ1 => ?_
  cases datS δ1 s with
  | none => first | rfl | exact wM_no | exact wM_er | exact wM_ok | simp only [Res.bind, wM_ok, wM_er, wM_no, wS_nx, wS_rt, wS_bk, wS_ct, wS_er, wS_no, wO_some, wO_none, wG_some, wG_none, wF_okn, wF_oks, wF_er, wF_no, wI_okn, wI_oks, wI_er, wI_no] | (simp only [wM_ok, wM_er, wM_no, wS_nx, wS_rt, wS_bk, wS_ct, wS_er, wS_no, wO_some, wO_none, wG_some, wG_none, wF_okn, wF_oks, wF_er, wF_no, wI_okn, wI_oks, wI_er, wI_no]; exact wM_no) | (simp only [wM_ok, wM_er, wM_no, wS_nx, wS_rt, wS_bk, wS_ct, wS_er, wS_no, wO_some, wO_none, wG_some, wG_none, wF_okn, wF_oks, wF_er, wF_no, wI_okn, wI_oks, wI_er, wI_no, boolM]; done)
  | some d => cases d <;> first | rfl | exact wM_no | exact wM_er | exact wM_ok | simp only [Res.bind, wM_ok, wM_er, wM_no, wS_nx, wS_rt, wS_bk, wS_ct, wS_er, wS_no, wO_some, wO_none, wG_some, wG_none, wF_okn, wF_oks, wF_er, wF_no, wI_okn, wI_oks, wI_er, wI_no] | (simp only [wM_ok, wM_er, wM_no, wS_nx, wS_rt, wS_bk, wS_ct, wS_er, wS_no, wO_some, wO_none, wG_some, wG_none, wF_okn, wF_oks, wF_er, wF_no, wI_okn, wI_oks, wI_er, wI_no]; exact wM_no) | (simp only [wM_ok, wM_er, wM_no, wS_nx, wS_rt, wS_bk, wS_ct, wS_er, wS_no, wO_some, wO_none, wG_some, wG_none, wF_okn, wF_oks, wF_er, wF_no, wI_okn, wI_oks, wI_er, wI_no, boolM]; done)
@[simp ↓] theorem wM_chain : wM (chainM g g' m m' m2 δ) Q = wM (m δ) fun x δ1 => wM (m' δ1) fun y δ2 => match datS δ2 x, datS δ2 y with
  | some d, some e => wG (g [d, e]) δ2 fun s δ3 => wM (boolM s δ3) fun b δ4 => (b = true → wM (m2 δ4) fun w δ5 => wM (opM g' [y, w] δ5) Q) ∧ (b = false → Q (.sh (.bool false)) δ4)
  | _, _ => False := by
  unfold chainM; refine wM_b fun x δ1 => ?_; refine wM_b fun y δ2 => ?_; refine (wM_bind _ _ _ _).trans ?_
  unfold boolOp dats dats
  cases datS δ2 x with
  | none => first | rfl | exact wM_no | exact wM_er | exact wM_ok | simp only [Res.bind, wM_ok, wM_er, wM_no, wS_nx, wS_rt, wS_bk, wS_ct, wS_er, wS_no, wO_some, wO_none, wG_some, wG_none, wF_okn, wF_oks, wF_er, wF_no, wI_okn, wI_oks, wI_er, wI_no] | (simp only [wM_ok, wM_er, wM_no, wS_nx, wS_rt, wS_bk, wS_ct, wS_er, wS_no, wO_some, wO_none, wG_some, wG_none, wF_okn, wF_oks, wF_er, wF_no, wI_okn, wI_oks, wI_er, wI_no]; exact wM_no) | (simp only [wM_ok, wM_er, wM_no, wS_nx, wS_rt, wS_bk, wS_ct, wS_er, wS_no, wO_some, wO_none, wG_some, wG_none, wF_okn, wF_oks, wF_er, wF_no, wI_okn, wI_oks, wI_er, wI_no, boolM]; done)
  | some d => cases datS δ2 y with
    | none => first | rfl | exact wM_no | exact wM_er | exact wM_ok | simp only [Res.bind, wM_ok, wM_er, wM_no, wS_nx, wS_rt, wS_bk, wS_ct, wS_er, wS_no, wO_some, wO_none, wG_some, wG_none, wF_okn, wF_oks, wF_er, wF_no, wI_okn, wI_oks, wI_er, wI_no] | (simp only [wM_ok, wM_er, wM_no, wS_nx, wS_rt, wS_bk, wS_ct, wS_er, wS_no, wO_some, wO_none, wG_some, wG_none, wF_okn, wF_oks, wF_er, wF_no, wI_okn, wI_oks, wI_er, wI_no]; exact wM_no) | (simp only [wM_ok, wM_er, wM_no, wS_nx, wS_rt, wS_bk, wS_ct, wS_er, wS_no, wO_some, wO_none, wG_some, wG_none, wF_okn, wF_oks, wF_er, wF_no, wI_okn, wI_oks, wI_er, wI_no, boolM]; done)
    | some e =>
      show wM (match g [d, e] with
        | some (.sh (.bool b)) => .ok b δ2
        | _ => .no) _ = wG (g [d, e]) δ2 _
      cases g [d, e] with
      | none => first | rfl | exact wM_no | exact wM_er | exact wM_ok | simp only [Res.bind, wM_ok, wM_er, wM_no, wS_nx, wS_rt, wS_bk, wS_ct, wS_er, wS_no, wO_some, wO_none, wG_some, wG_none, wF_okn, wF_oks, wF_er, wF_no, wI_okn, wI_oks, wI_er, wI_no] | (simp only [wM_ok, wM_er, wM_no, wS_nx, wS_rt, wS_bk, wS_ct, wS_er, wS_no, wO_some, wO_none, wG_some, wG_none, wF_okn, wF_oks, wF_er, wF_no, wI_okn, wI_oks, wI_er, wI_no]; exact wM_no) | (simp only [wM_ok, wM_er, wM_no, wS_nx, wS_rt, wS_bk, wS_ct, wS_er, wS_no, wO_some, wO_none, wG_some, wG_none, wF_okn, wF_oks, wF_er, wF_no, wI_okn, wI_oks, wI_er, wI_no, boolM]; done)
      | some o => cases o with
        | nw d => rw [wG_some]; exact wM_no.trans wM_no.symm
        | sh d => cases d with
          | bool b =>
            refine (wM_ok (a := b) (δ := δ2)).trans (Eq.trans ?_ wG_some.symm)
            refine Eq.trans ?_ wM_ok.symm
            show wM ((if b = true then (m2 >>= fun w => opM g' [y, w]) else cM (.bool false)) δ2) Q = ((b = true → wM (m2 δ2) fun w δ5 => wM (opM g' [y, w] δ5) Q) ∧ (b = false → Q (.sh (.bool false)) δ2))
            cases b
            · rw [if_neg Bool.false_ne_true]; refine (wM_ok (a := Sl.sh (.bool false)) (δ := δ2)).trans ?_; exact propext ⟨fun h => ⟨fun z => (nomatch z), fun _ => h⟩, fun h => h.2 rfl⟩
            · rw [if_pos rfl, wM_bind]; exact propext ⟨fun h => ⟨fun _ => h, fun z => (nomatch z)⟩, fun h => h.1 rfl⟩
          | _ => rw [wG_some]; exact wM_no.trans wM_no.symm
@[simp ↓] theorem wM_noP {Q : Option Int → List Sl → Prop} : wM (noP δ) Q = Q none δ := by first | exact id rfl | exact wM_ok
@[simp ↓] theorem wM_someP {Q : Option Int → List Sl → Prop} : wM (someP m δ) Q = wM (m δ) fun s δ1 => match s with
  | .sh (.int i) => Q (some i) δ1
  | _ => False := by
  unfold someP; refine wM_b fun s δ1 => ?_
  cases s with
  | sh d => cases d <;> first | rfl | exact wM_no | exact wM_er | exact wM_ok | simp only [Res.bind, wM_ok, wM_er, wM_no, wS_nx, wS_rt, wS_bk, wS_ct, wS_er, wS_no, wO_some, wO_none, wG_some, wG_none, wF_okn, wF_oks, wF_er, wF_no, wI_okn, wI_oks, wI_er, wI_no] | (simp only [wM_ok, wM_er, wM_no, wS_nx, wS_rt, wS_bk, wS_ct, wS_er, wS_no, wO_some, wO_none, wG_some, wG_none, wF_okn, wF_oks, wF_er, wF_no, wI_okn, wI_oks, wI_er, wI_no]; exact wM_no) | (simp only [wM_ok, wM_er, wM_no, wS_nx, wS_rt, wS_bk, wS_ct, wS_er, wS_no, wO_some, wO_none, wG_some, wG_none, wF_okn, wF_oks, wF_er, wF_no, wI_okn, wI_oks, wI_er, wI_no, boolM]; done)
  | _ => first | rfl | exact wM_no | exact wM_er | exact wM_ok | simp only [Res.bind, wM_ok, wM_er, wM_no, wS_nx, wS_rt, wS_bk, wS_ct, wS_er, wS_no, wO_some, wO_none, wG_some, wG_none, wF_okn, wF_oks, wF_er, wF_no, wI_okn, wI_oks, wI_er, wI_no] | (simp only [wM_ok, wM_er, wM_no, wS_nx, wS_rt, wS_bk, wS_ct, wS_er, wS_no, wO_some, wO_none, wG_some, wG_none, wF_okn, wF_oks, wF_er, wF_no, wI_okn, wI_oks, wI_er, wI_no]; exact wM_no) | (simp only [wM_ok, wM_er, wM_no, wS_nx, wS_rt, wS_bk, wS_ct, wS_er, wS_no, wO_some, wO_none, wG_some, wG_none, wF_okn, wF_oks, wF_er, wF_no, wI_okn, wI_oks, wI_er, wI_no, boolM]; done)
@[simp ↓] theorem wM_slice {l h : M (Option Int)} : wM (sliceM m l h δ) Q = wM (m δ) fun s δ1 => wM (l δ1) fun lo δ2 => wM (h δ2) fun hi δ3 => match datS δ3 s with
  | some d => wG (gSlice lo hi d) δ3 Q
  | none => False := by
  unfold sliceM; refine wM_b fun s δ1 => ?_; refine wM_b fun lo δ2 => ?_; refine wM_b fun hi δ3 => ?_; rw [wM_op1]
@[simp ↓] theorem wM_rng1 : wM (rng1M ms δ) U = wM (ms δ) fun rs δ1 => match rs with
  | [.sh (.int j)] => (j ≤ 1000000 ∧ -1000000 ≤ j) ∧ U ((List.range j.toNat).map fun (k : Nat) => PyData.int (0 + (k : Int))) δ1
  | _ => False := by
  unfold rng1M; refine wM_b fun rs δ1 => ?_
  split
  · rename_i j
    by_cases h : j ≤ 1000000 ∧ -1000000 ≤ j <;> simp [h, wM_ok, wM_er, wM_no, wS_nx, wS_rt, wS_bk, wS_ct, wS_er, wS_no, wO_some, wO_none, wG_some, wG_none, wF_okn, wF_oks, wF_er, wF_no, wI_okn, wI_oks, wI_er, wI_no]
  · first
      | exact wM_no
      | (split <;> first | exact wM_no | simp_all)
@[simp ↓] theorem wM_rng2 : wM (rng2M ms δ) U = wM (ms δ) fun rs δ1 => match rs with
  | [.sh (.int i), .sh (.int j)] => ((j ≤ 1000000 ∧ -1000000 ≤ j) ∧ i ≤ 1000000 ∧ -1000000 ≤ i) ∧ U ((List.range (j - i).toNat).map fun (k : Nat) => PyData.int (i + (k : Int))) δ1
  | _ => False := by
  unfold rng2M; refine wM_b fun rs δ1 => ?_
  split
  · rename_i i j
    by_cases h : (j ≤ 1000000 ∧ -1000000 ≤ j) ∧ i ≤ 1000000 ∧ -1000000 ≤ i <;> simp [h, wM_ok, wM_er, wM_no, wS_nx, wS_rt, wS_bk, wS_ct, wS_er, wS_no, wO_some, wO_none, wG_some, wG_none, wF_okn, wF_oks, wF_er, wF_no, wI_okn, wI_oks, wI_er, wI_no]
  · first
      | exact wM_no
      | (split <;> first | exact wM_no | simp_all)
@[simp ↓] theorem wM_items : wM (itemsM m δ) U = wM (m δ) fun s δ1 => match s with
  | .sh (.list ds) => U ds δ1
  | .sh (.tuple ds) => U ds δ1
  | .ow (.list ds) => U ds δ1
  | _ => False := by
  unfold itemsM; refine wM_b fun s δ1 => ?_
  cases s with
  | sh d => cases d <;> first | rfl | exact wM_no | exact wM_er | exact wM_ok | simp only [Res.bind, wM_ok, wM_er, wM_no, wS_nx, wS_rt, wS_bk, wS_ct, wS_er, wS_no, wO_some, wO_none, wG_some, wG_none, wF_okn, wF_oks, wF_er, wF_no, wI_okn, wI_oks, wI_er, wI_no] | (simp only [wM_ok, wM_er, wM_no, wS_nx, wS_rt, wS_bk, wS_ct, wS_er, wS_no, wO_some, wO_none, wG_some, wG_none, wF_okn, wF_oks, wF_er, wF_no, wI_okn, wI_oks, wI_er, wI_no]; exact wM_no) | (simp only [wM_ok, wM_er, wM_no, wS_nx, wS_rt, wS_bk, wS_ct, wS_er, wS_no, wO_some, wO_none, wG_some, wG_none, wF_okn, wF_oks, wF_er, wF_no, wI_okn, wI_oks, wI_er, wI_no, boolM]; done)
  | ow d => cases d <;> first | rfl | exact wM_no | exact wM_er | exact wM_ok | simp only [Res.bind, wM_ok, wM_er, wM_no, wS_nx, wS_rt, wS_bk, wS_ct, wS_er, wS_no, wO_some, wO_none, wG_some, wG_none, wF_okn, wF_oks, wF_er, wF_no, wI_okn, wI_oks, wI_er, wI_no] | (simp only [wM_ok, wM_er, wM_no, wS_nx, wS_rt, wS_bk, wS_ct, wS_er, wS_no, wO_some, wO_none, wG_some, wG_none, wF_okn, wF_oks, wF_er, wF_no, wI_okn, wI_oks, wI_er, wI_no]; exact wM_no) | (simp only [wM_ok, wM_er, wM_no, wS_nx, wS_rt, wS_bk, wS_ct, wS_er, wS_no, wO_some, wO_none, wG_some, wG_none, wF_okn, wF_oks, wF_er, wF_no, wI_okn, wI_oks, wI_er, wI_no, boolM]; done)
  | _ => first | rfl | exact wM_no | exact wM_er | exact wM_ok | simp only [Res.bind, wM_ok, wM_er, wM_no, wS_nx, wS_rt, wS_bk, wS_ct, wS_er, wS_no, wO_some, wO_none, wG_some, wG_none, wF_okn, wF_oks, wF_er, wF_no, wI_okn, wI_oks, wI_er, wI_no] | (simp only [wM_ok, wM_er, wM_no, wS_nx, wS_rt, wS_bk, wS_ct, wS_er, wS_no, wO_some, wO_none, wG_some, wG_none, wF_okn, wF_oks, wF_er, wF_no, wI_okn, wI_oks, wI_er, wI_no]; exact wM_no) | (simp only [wM_ok, wM_er, wM_no, wS_nx, wS_rt, wS_bk, wS_ct, wS_er, wS_no, wO_some, wO_none, wG_some, wG_none, wF_okn, wF_oks, wF_er, wF_no, wI_okn, wI_oks, wI_er, wI_no, boolM]; done)
@[simp ↓] theorem wM_lc {mi : M (List PyData)} {g : GM} {vs : List Nat} : wM (lcM mi g t m vs δ) Q = wM (mi δ) fun items δ1 => wM (lcL g t m vs items [] (wipeD δ1 vs)) fun acc δ2 => Q (.ow (.list acc)) δ2 := by
  unfold lcM; refine wM_b fun items δ1 => ?_
  cases lcL g t m vs items [] (wipeD δ1 vs) <;> first | rfl | exact wM_no | exact wM_er | exact wM_ok | simp only [Res.bind, wM_ok, wM_er, wM_no, wS_nx, wS_rt, wS_bk, wS_ct, wS_er, wS_no, wO_some, wO_none, wG_some, wG_none, wF_okn, wF_oks, wF_er, wF_no, wI_okn, wI_oks, wI_er, wI_no] | (simp only [wM_ok, wM_er, wM_no, wS_nx, wS_rt, wS_bk, wS_ct, wS_er, wS_no, wO_some, wO_none, wG_some, wG_none, wF_okn, wF_oks, wF_er, wF_no, wI_okn, wI_oks, wI_er, wI_no]; exact wM_no) | (simp only [wM_ok, wM_er, wM_no, wS_nx, wS_rt, wS_bk, wS_ct, wS_er, wS_no, wO_some, wO_none, wG_some, wG_none, wF_okn, wF_oks, wF_er, wF_no, wI_okn, wI_oks, wI_er, wI_no, boolM]; done)
inductive wMu (x : Option (PyData × PyData)) (Q : PyData → PyData → Prop) (tk : Tk Q := .mk) : Prop
  | mk (o c : PyData) (h : x = some (o, c)) (q : Q o c) : wMu x Q tk
theorem wMu_none (Q : PyData → PyData → Prop) : wMu none Q = False := propext ⟨fun ⟨_, _, h, q⟩ => (nomatch h), False.elim⟩
@[simp ↓] theorem wMu_some (o c : PyData) (Q : PyData → PyData → Prop) : wMu (some (o, c)) Q = Q o c := propext ⟨fun ⟨_, _, h, q⟩ => by cases h; exact q, fun q => ⟨_, _, rfl, q⟩⟩
def wCh (i : Nat) (g : PyData → List PyData → Option (PyData × PyData)) (rs : List Sl) (δ : List Sl) (Q : Sl → List Sl → Prop) (_ : Tk Q := .mk) : Prop := match δ[i]?, escs rs with
  | some (.ow d), some ds => wMu (g d ds) fun o c => Q (.sh o) (δ.set i (.ow c))
  | some (.io k d), some ds => wMu (g d ds) fun o c => Q (.sh o) (δ.set i (.io k c))
  | _, _ => False
@[simp ↓] theorem wM_change (i : Nat) (g : PyData → List PyData → Option (PyData × PyData)) : wM (changeM i g rs δ) Q = match δ[i]?, escs rs with
  | some (.ow d), some ds => wMu (g d ds) fun o c => Q (.sh o) (δ.set i (.ow c))
  | some (.io k d), some ds => wMu (g d ds) fun o c => Q (.sh o) (δ.set i (.io k c))
  | _, _ => False := by
  unfold changeM
  cases δ[i]? with
  | none => first | rfl | exact wM_no | exact wM_er | exact wM_ok | simp only [Res.bind, wM_ok, wM_er, wM_no, wS_nx, wS_rt, wS_bk, wS_ct, wS_er, wS_no, wO_some, wO_none, wG_some, wG_none, wF_okn, wF_oks, wF_er, wF_no, wI_okn, wI_oks, wI_er, wI_no] | (simp only [wM_ok, wM_er, wM_no, wS_nx, wS_rt, wS_bk, wS_ct, wS_er, wS_no, wO_some, wO_none, wG_some, wG_none, wF_okn, wF_oks, wF_er, wF_no, wI_okn, wI_oks, wI_er, wI_no]; exact wM_no) | (simp only [wM_ok, wM_er, wM_no, wS_nx, wS_rt, wS_bk, wS_ct, wS_er, wS_no, wO_some, wO_none, wG_some, wG_none, wF_okn, wF_oks, wF_er, wF_no, wI_okn, wI_oks, wI_er, wI_no, boolM]; done)
  | some s => cases escs rs with
    | none => cases s <;> first | rfl | exact wM_no | exact wM_er | exact wM_ok | simp only [Res.bind, wM_ok, wM_er, wM_no, wS_nx, wS_rt, wS_bk, wS_ct, wS_er, wS_no, wO_some, wO_none, wG_some, wG_none, wF_okn, wF_oks, wF_er, wF_no, wI_okn, wI_oks, wI_er, wI_no] | (simp only [wM_ok, wM_er, wM_no, wS_nx, wS_rt, wS_bk, wS_ct, wS_er, wS_no, wO_some, wO_none, wG_some, wG_none, wF_okn, wF_oks, wF_er, wF_no, wI_okn, wI_oks, wI_er, wI_no]; exact wM_no) | (simp only [wM_ok, wM_er, wM_no, wS_nx, wS_rt, wS_bk, wS_ct, wS_er, wS_no, wO_some, wO_none, wG_some, wG_none, wF_okn, wF_oks, wF_er, wF_no, wI_okn, wI_oks, wI_er, wI_no, boolM]; done)
    | some ds => cases s with
      | ow d => show wM (match g d ds with
          | some (o, c) => .ok (.sh o) (δ.set i (.ow c))
          | none => .no) Q = wMu (g d ds) _; cases g d ds with
          | none => exact wM_no.trans (wMu_none _).symm
          | some oc => obtain ⟨o, c⟩ := oc; rw [wMu_some]; exact wM_ok
      | io k d => show wM (match g d ds with
          | some (o, c) => .ok (.sh o) (δ.set i (.io k c))
          | none => .no) Q = wMu (g d ds) _; cases g d ds with
          | none => exact wM_no.trans (wMu_none _).symm
          | some oc => obtain ⟨o, c⟩ := oc; rw [wMu_some]; exact wM_ok
      | _ => first | rfl | exact wM_no | exact wM_er | exact wM_ok | simp only [Res.bind, wM_ok, wM_er, wM_no, wS_nx, wS_rt, wS_bk, wS_ct, wS_er, wS_no, wO_some, wO_none, wG_some, wG_none, wF_okn, wF_oks, wF_er, wF_no, wI_okn, wI_oks, wI_er, wI_no] | (simp only [wM_ok, wM_er, wM_no, wS_nx, wS_rt, wS_bk, wS_ct, wS_er, wS_no, wO_some, wO_none, wG_some, wG_none, wF_okn, wF_oks, wF_er, wF_no, wI_okn, wI_oks, wI_er, wI_no]; exact wM_no) | (simp only [wM_ok, wM_er, wM_no, wS_nx, wS_rt, wS_bk, wS_ct, wS_er, wS_no, wO_some, wO_none, wG_some, wG_none, wF_okn, wF_oks, wF_er, wF_no, wI_okn, wI_oks, wI_er, wI_no, boolM]; done)
def wTy (T : String) (d : PyData) (P : Prop) (_ : Tk P := .mk) : Prop := match d with
    | .list _ => T = "list" ∧ P
    | .dict _ => T = "dict" ∧ P
    | _ => False
@[simp ↓] theorem wTy_l (T : String) (l : List PyData) (P : Prop) : wTy T (.list l) P = (T = "list" ∧ P) := by first | exact id rfl | exact wM_ok
@[simp ↓] theorem wTy_d (T : String) (l : List (PyData × PyData)) (P : Prop) : wTy T (.dict l) P = (T = "dict" ∧ P) := by first | exact id rfl | exact wM_ok
@[simp ↓] theorem wM_mut (T : String) (i : Nat) (g : PyData → List PyData → Option (PyData × PyData)) : wM (mutM T i g ms δ) Q = match δ[i]? with
  | some (.ow d) => wTy T d (wM (ms δ) fun rs δ1 => wM (changeM i g rs δ1) Q)
  | some (.io _ d) => wTy T d (wM (ms δ) fun rs δ1 => wM (changeM i g rs δ1) Q)
  | _ => False := by
  unfold mutM; rw [wM_bind, wM_own]
  cases h : δ[i]? with
  | none => first | rfl | exact wM_no | exact wM_er | exact wM_ok | simp only [Res.bind, wM_ok, wM_er, wM_no, wS_nx, wS_rt, wS_bk, wS_ct, wS_er, wS_no, wO_some, wO_none, wG_some, wG_none, wF_okn, wF_oks, wF_er, wF_no, wI_okn, wI_oks, wI_er, wI_no] | (simp only [wM_ok, wM_er, wM_no, wS_nx, wS_rt, wS_bk, wS_ct, wS_er, wS_no, wO_some, wO_none, wG_some, wG_none, wF_okn, wF_oks, wF_er, wF_no, wI_okn, wI_oks, wI_er, wI_no]; exact wM_no) | (simp only [wM_ok, wM_er, wM_no, wS_nx, wS_rt, wS_bk, wS_ct, wS_er, wS_no, wO_some, wO_none, wG_some, wG_none, wF_okn, wF_oks, wF_er, wF_no, wI_okn, wI_oks, wI_er, wI_no, boolM]; done)
  | some s =>
    have key : ∀ d : PyData, s.dat = d → wM ((chkC T i >>= fun _ => ms >>= fun rs => changeM i g rs) δ) Q = wTy T d (wM (ms δ) fun rs δ1 => wM (changeM i g rs δ1) Q) := by
      intro d hd
      rw [wM_bind]
      unfold chkC
      rw [h]
      dsimp only
      rw [hd]
      cases d with
      | list l => by_cases hT : T = "list"
                  · subst hT; show wM (Res.ok () δ) (fun _ δ' => wM ((ms >>= fun rs => changeM i g rs) δ') Q) = _; rw [wM_ok, wM_bind]; simp [wTy]
                  · rw [if_neg hT]; simp [hT, wTy, wM_ok, wM_er, wM_no, wS_nx, wS_rt, wS_bk, wS_ct, wS_er, wS_no, wO_some, wO_none, wG_some, wG_none, wF_okn, wF_oks, wF_er, wF_no, wI_okn, wI_oks, wI_er, wI_no]
      | dict l => by_cases hT : T = "dict"
                  · subst hT; show wM (Res.ok () δ) (fun _ δ' => wM ((ms >>= fun rs => changeM i g rs) δ') Q) = _; rw [wM_ok, wM_bind]; simp [wTy]
                  · rw [if_neg hT]; simp [hT, wTy, wM_ok, wM_er, wM_no, wS_nx, wS_rt, wS_bk, wS_ct, wS_er, wS_no, wO_some, wO_none, wG_some, wG_none, wF_okn, wF_oks, wF_er, wF_no, wI_okn, wI_oks, wI_er, wI_no]
      | _ => first | rfl | exact wM_no | exact wM_er | exact wM_ok | simp only [Res.bind, wM_ok, wM_er, wM_no, wS_nx, wS_rt, wS_bk, wS_ct, wS_er, wS_no, wO_some, wO_none, wG_some, wG_none, wF_okn, wF_oks, wF_er, wF_no, wI_okn, wI_oks, wI_er, wI_no] | (simp only [wM_ok, wM_er, wM_no, wS_nx, wS_rt, wS_bk, wS_ct, wS_er, wS_no, wO_some, wO_none, wG_some, wG_none, wF_okn, wF_oks, wF_er, wF_no, wI_okn, wI_oks, wI_er, wI_no]; exact wM_no) | (simp only [wM_ok, wM_er, wM_no, wS_nx, wS_rt, wS_bk, wS_ct, wS_er, wS_no, wO_some, wO_none, wG_some, wG_none, wF_okn, wF_oks, wF_er, wF_no, wI_okn, wI_oks, wI_er, wI_no, boolM]; done)
    cases s with
    | ow d => exact key d rfl
    | io k d => exact key d rfl
    | _ => first | rfl | exact wM_no | exact wM_er | exact wM_ok | simp only [Res.bind, wM_ok, wM_er, wM_no, wS_nx, wS_rt, wS_bk, wS_ct, wS_er, wS_no, wO_some, wO_none, wG_some, wG_none, wF_okn, wF_oks, wF_er, wF_no, wI_okn, wI_oks, wI_er, wI_no] | (simp only [wM_ok, wM_er, wM_no, wS_nx, wS_rt, wS_bk, wS_ct, wS_er, wS_no, wO_some, wO_none, wG_some, wG_none, wF_okn, wF_oks, wF_er, wF_no, wI_okn, wI_oks, wI_er, wI_no]; exact wM_no) | (simp only [wM_ok, wM_er, wM_no, wS_nx, wS_rt, wS_bk, wS_ct, wS_er, wS_no, wO_some, wO_none, wG_some, wG_none, wF_okn, wF_oks, wF_er, wF_no, wI_okn, wI_oks, wI_er, wI_no, boolM]; done)
end
end DL

set_option Elab.async false
set_option linter.all false
set_option maxRecDepth 100000
namespace DL
open PySem PySem.Spec PyProof.Rows L2
/-! ### statements, read from the end -/
section
variable {N : List Sl → Prop} {T : Sl → List Sl → Prop} {B C : List Sl → Prop} {δ : List Sl} {m : M Sl} {s t : SM} {c : M Bool}
theorem wS_to {α : Type} (m : M α) (f : α → List Sl → SRes) : wS (M.toS m f δ) N T B C = wM (m δ) fun a δ1 => wS (f a δ1) N T B C := by
  unfold M.toS
  cases m δ <;> first | rfl | exact wM_no | exact wM_er | exact wM_ok | exact wS_nx | exact wS_no | exact wS_ct | exact wS_bk | exact wS_rt | exact wS_er | simp only [Res.bind, resOf, wM_ok, wM_er, wM_no, wS_nx, wS_rt, wS_bk, wS_ct, wS_er, wS_no, wO_some, wO_none, wG_some, wG_none, wF_okn, wF_oks, wF_er, wF_no, wI_okn, wI_oks, wI_er, wI_no]
@[simp ↓] theorem wS_seq : wS (seqS s t δ) N T B C = wS (s δ) (fun δ1 => wS (t δ1) N T B C) T B C := by
  unfold seqS
  cases s δ <;> first | rfl | exact wM_no | exact wM_er | exact wM_ok | exact wS_nx | exact wS_no | exact wS_ct | exact wS_bk | exact wS_rt | exact wS_er | simp only [Res.bind, resOf, wM_ok, wM_er, wM_no, wS_nx, wS_rt, wS_bk, wS_ct, wS_er, wS_no, wO_some, wO_none, wG_some, wG_none, wF_okn, wF_oks, wF_er, wF_no, wI_okn, wI_oks, wI_er, wI_no]
@[simp ↓] theorem wS_next : wS (nextS δ) N T B C = N δ := by first | rfl | exact wM_no | exact wM_er | exact wM_ok | exact wS_nx | exact wS_no | exact wS_ct | exact wS_bk | exact wS_rt | exact wS_er | simp only [Res.bind, resOf, wM_ok, wM_er, wM_no, wS_nx, wS_rt, wS_bk, wS_ct, wS_er, wS_no, wO_some, wO_none, wG_some, wG_none, wF_okn, wF_oks, wF_er, wF_no, wI_okn, wI_oks, wI_er, wI_no]
@[simp ↓] theorem wS_break : wS (breakS δ) N T B C = B δ := by first | rfl | exact wM_no | exact wM_er | exact wM_ok | exact wS_nx | exact wS_no | exact wS_ct | exact wS_bk | exact wS_rt | exact wS_er | simp only [Res.bind, resOf, wM_ok, wM_er, wM_no, wS_nx, wS_rt, wS_bk, wS_ct, wS_er, wS_no, wO_some, wO_none, wG_some, wG_none, wF_okn, wF_oks, wF_er, wF_no, wI_okn, wI_oks, wI_er, wI_no]
@[simp ↓] theorem wS_cont : wS (contS δ) N T B C = C δ := by first | rfl | exact wM_no | exact wM_er | exact wM_ok | exact wS_nx | exact wS_no | exact wS_ct | exact wS_bk | exact wS_rt | exact wS_er | simp only [Res.bind, resOf, wM_ok, wM_er, wM_no, wS_nx, wS_rt, wS_bk, wS_ct, wS_er, wS_no, wO_some, wO_none, wG_some, wG_none, wF_okn, wF_oks, wF_er, wF_no, wI_okn, wI_oks, wI_er, wI_no]
@[simp ↓] theorem wS_retN : wS (retNS δ) N T B C = T (.sh .none) δ := by first | rfl | exact wM_no | exact wM_er | exact wM_ok | exact wS_nx | exact wS_no | exact wS_ct | exact wS_bk | exact wS_rt | exact wS_er | simp only [Res.bind, resOf, wM_ok, wM_er, wM_no, wS_nx, wS_rt, wS_bk, wS_ct, wS_er, wS_no, wO_some, wO_none, wG_some, wG_none, wF_okn, wF_oks, wF_er, wF_no, wI_okn, wI_oks, wI_er, wI_no]
@[simp ↓] theorem wS_expr : wS (exprS m δ) N T B C = wM (m δ) fun _ δ1 => N δ1 := (wS_to _ _).trans (wM_q fun _ _ => wS_nx)
@[simp ↓] theorem wS_ret : wS (retS m δ) N T B C = wM (m δ) T := (wS_to _ _).trans (wM_q fun _ _ => wS_rt)
@[simp ↓] theorem wS_if : wS (ifS c s t δ) N T B C = wM (c δ) fun b δ1 => (b = true → wS (s δ1) N T B C) ∧ (b = false → wS (t δ1) N T B C) := by
  unfold ifS
  rw [wS_to]
  refine wM_q fun b δ1 => ?_
  cases b <;> simp
@[simp ↓] theorem wS_set {g : GM} : wS (setS m g δ) N T B C = wM (m δ) fun x δ1 => wO (g x δ1) N := by
  unfold setS
  rw [wS_to]
  refine wM_q fun x δ1 => ?_
  cases g x δ1 <;> first | rfl | exact wM_no | exact wM_er | exact wM_ok | exact wS_nx | exact wS_no | exact wS_ct | exact wS_bk | exact wS_rt | exact wS_er | simp only [Res.bind, resOf, wM_ok, wM_er, wM_no, wS_nx, wS_rt, wS_bk, wS_ct, wS_er, wS_no, wO_some, wO_none, wG_some, wG_none, wF_okn, wF_oks, wF_er, wF_no, wI_okn, wI_oks, wI_er, wI_no]
@[simp ↓] theorem wS_for {mi : M (List PyData)} {g : GM} : wS (forS mi g s δ) N T B C = wM (mi δ) fun items δ1 => wS (forL g s items δ1) N T B C := wS_to _ _
@[simp ↓] theorem wS_fnil {g : GM} : wS (forL g s [] δ) N T B C = N δ := by first | rfl | exact wM_no | exact wM_er | exact wM_ok | exact wS_nx | exact wS_no | exact wS_ct | exact wS_bk | exact wS_rt | exact wS_er | simp only [Res.bind, resOf, wM_ok, wM_er, wM_no, wS_nx, wS_rt, wS_bk, wS_ct, wS_er, wS_no, wO_some, wO_none, wG_some, wG_none, wF_okn, wF_oks, wF_er, wF_no, wI_okn, wI_oks, wI_er, wI_no]
@[simp ↓] theorem wS_fcons {g : GM} {d : PyData} {r : List PyData} : wS (forL g s (d :: r) δ) N T B C = wO (g (.sh d) δ) fun δ1 => wS (s δ1) (fun δ2 => wS (forL g s r δ2) N T B C) T N (fun δ2 => wS (forL g s r δ2) N T B C) := by
  rw [forL]
  cases g (.sh d) δ with
  | none => first | rfl | exact wM_no | exact wM_er | exact wM_ok | exact wS_nx | exact wS_no | exact wS_ct | exact wS_bk | exact wS_rt | exact wS_er | simp only [Res.bind, resOf, wM_ok, wM_er, wM_no, wS_nx, wS_rt, wS_bk, wS_ct, wS_er, wS_no, wO_some, wO_none, wG_some, wG_none, wF_okn, wF_oks, wF_er, wF_no, wI_okn, wI_oks, wI_er, wI_no]
  | some δ1 =>
    rw [wO_some]
    show wS (match s δ1 with
      | .nx δ2 => forL g s r δ2
      | .ct δ2 => forL g s r δ2
      | .bk δ2 => .nx δ2
      | x => x) N T B C = wS (s δ1) _ _ _ _
    cases s δ1 <;> first | rfl | exact wM_no | exact wM_er | exact wM_ok | exact wS_nx | exact wS_no | exact wS_ct | exact wS_bk | exact wS_rt | exact wS_er | simp only [Res.bind, resOf, wM_ok, wM_er, wM_no, wS_nx, wS_rt, wS_bk, wS_ct, wS_er, wS_no, wO_some, wO_none, wG_some, wG_none, wF_okn, wF_oks, wF_er, wF_no, wI_okn, wI_oks, wI_er, wI_no]
/-- a loop with what holds before each turn -/
theorem wS_inv {g : GM} (I : List PyData → List Sl → Prop) (hs : ∀ d r δ, I (d :: r) δ → wO (g (.sh d) δ) fun δ1 => wS (s δ1) (I r) T N (I r)) : ∀ (items : List PyData) (δ : List Sl), I items δ → (∀ δ, I [] δ → N δ) → wS (forL g s items δ) N T B C
  | [], δ, h, he => by rw [wS_fnil]; exact he δ h
  | d :: r, δ, h, he => by
    rw [wS_fcons]
    refine (hs d r δ h).mono fun δ1 q => q.mono (fun δ2 q2 => wS_inv I hs r δ2 q2 he) (fun _ _ h => h) (fun _ h => h) fun δ2 q2 => wS_inv I hs r δ2 q2 he
theorem wS_while {n : Nat} : wS (whileL c s (n + 1) δ) N T B C = wM (c δ) fun b δ1 => (b = true → wS (s δ1) (fun δ2 => wS (whileL c s n δ2) N T B C) T N (fun δ2 => wS (whileL c s n δ2) N T B C)) ∧ (b = false → N δ1) := by
  rw [whileL]
  cases c δ with
  | ok b δ1 => cases b with
    | true =>
      rw [wM_ok]
      show wS (match s δ1 with
      | .nx δ2 => whileL c s n δ2
      | .ct δ2 => whileL c s n δ2
      | .bk δ2 => .nx δ2
      | x => x) N T B C = ((true = true → wS (s δ1) _ _ _ _) ∧ (true = false → N δ1))
      rw [show ((true = true → wS (s δ1) (fun δ2 => wS (whileL c s n δ2) N T B C) T N (fun δ2 => wS (whileL c s n δ2) N T B C)) ∧ (true = false → N δ1)) = wS (s δ1) (fun δ2 => wS (whileL c s n δ2) N T B C) T N (fun δ2 => wS (whileL c s n δ2) N T B C) from propext ⟨fun h => h.1 rfl, fun h => ⟨fun _ => h, fun z => nomatch z⟩⟩]
      cases s δ1 <;> first | rfl | exact wM_no | exact wM_er | exact wM_ok | exact wS_nx | exact wS_no | exact wS_ct | exact wS_bk | exact wS_rt | exact wS_er | simp only [Res.bind, resOf, wM_ok, wM_er, wM_no, wS_nx, wS_rt, wS_bk, wS_ct, wS_er, wS_no, wO_some, wO_none, wG_some, wG_none, wF_okn, wF_oks, wF_er, wF_no, wI_okn, wI_oks, wI_er, wI_no]
    | false =>
      rw [wM_ok]
      exact wS_nx.trans (propext ⟨fun h => ⟨fun z => (nomatch z), fun _ => h⟩, fun h => h.2 rfl⟩)
  | er e δ1 => exact wS_er.trans wM_er.symm
  | no => exact wS_no.trans wM_no.symm
/-- a while loop with what holds before each turn, and what falls -/
theorem wS_wInv (I : Nat → List Sl → Prop) (hs : ∀ k δ, I k δ → wM (c δ) fun b δ1 => (b = true → ∃ j, k = j + 1 ∧ wS (s δ1) (I j) T N (I j)) ∧ (b = false → N δ1)) : ∀ (n k : Nat) (δ : List Sl), I k δ → k < n → wS (whileL c s n δ) N T B C
  | 0, k, δ, h, hk => absurd hk (Nat.not_lt_zero _)
  | n + 1, k, δ, h, hk => by
    rw [wS_while]
    refine (hs k δ h).mono fun b δ1 q => ⟨fun z => ?_, q.2⟩
    obtain ⟨j, e, q1⟩ := q.1 z
    refine q1.mono (fun δ2 q2 => wS_wInv I hs n j δ2 q2 (by omega)) (fun _ _ h => h) (fun _ h => h) fun δ2 q2 => wS_wInv I hs n j δ2 q2 (by omega)
end
section
variable {Q : List Sl → Prop} {δ : List Sl}
@[simp ↓] theorem wO_name (i : Nat) (s : Sl) : wO (nameG i s δ) Q = match δ[i]? with
  | some o => (isIo o = false ∧ s.isAl = false ∧ isIo s = false) ∧ Q (δ.set i s)
  | none => False := by
  unfold nameG
  cases δ[i]? with
  | none => first | rfl | exact wM_no | exact wM_er | exact wM_ok | exact wS_nx | exact wS_no | exact wS_ct | exact wS_bk | exact wS_rt | exact wS_er | simp only [Res.bind, resOf, wM_ok, wM_er, wM_no, wS_nx, wS_rt, wS_bk, wS_ct, wS_er, wS_no, wO_some, wO_none, wG_some, wG_none, wF_okn, wF_oks, wF_er, wF_no, wI_okn, wI_oks, wI_er, wI_no]
  | some o =>
    show wO (if isIo o = true ∨ s.isAl = true ∨ isIo s = true then none else some (δ.set i s)) Q = ((isIo o = false ∧ s.isAl = false ∧ isIo s = false) ∧ Q (δ.set i s))
    cases isIo o <;> cases s.isAl <;> cases isIo s <;> simp [wM_ok, wM_er, wM_no, wS_nx, wS_rt, wS_bk, wS_ct, wS_er, wS_no, wO_some, wO_none, wG_some, wG_none, wF_okn, wF_oks, wF_er, wF_no, wI_okn, wI_oks, wI_er, wI_no]
@[simp] theorem isIo_no : isIo .no = false := by first | rfl | exact wM_no | exact wM_er | exact wM_ok | exact wS_nx | exact wS_no | exact wS_ct | exact wS_bk | exact wS_rt | exact wS_er | simp only [Res.bind, resOf, wM_ok, wM_er, wM_no, wS_nx, wS_rt, wS_bk, wS_ct, wS_er, wS_no, wO_some, wO_none, wG_some, wG_none, wF_okn, wF_oks, wF_er, wF_no, wI_okn, wI_oks, wI_er, wI_no]
@[simp] theorem isIo_sh (d : PyData) : isIo (.sh d) = false := by first | rfl | exact wM_no | exact wM_er | exact wM_ok | exact wS_nx | exact wS_no | exact wS_ct | exact wS_bk | exact wS_rt | exact wS_er | simp only [Res.bind, resOf, wM_ok, wM_er, wM_no, wS_nx, wS_rt, wS_bk, wS_ct, wS_er, wS_no, wO_some, wO_none, wG_some, wG_none, wF_okn, wF_oks, wF_er, wF_no, wI_okn, wI_oks, wI_er, wI_no]
@[simp] theorem isIo_ow (d : PyData) : isIo (.ow d) = false := by first | rfl | exact wM_no | exact wM_er | exact wM_ok | exact wS_nx | exact wS_no | exact wS_ct | exact wS_bk | exact wS_rt | exact wS_er | simp only [Res.bind, resOf, wM_ok, wM_er, wM_no, wS_nx, wS_rt, wS_bk, wS_ct, wS_er, wS_no, wO_some, wO_none, wG_some, wG_none, wF_okn, wF_oks, wF_er, wF_no, wI_okn, wI_oks, wI_er, wI_no]
@[simp] theorem isIo_raw (v : V) : isIo (.raw v) = false := by first | rfl | exact wM_no | exact wM_er | exact wM_ok | exact wS_nx | exact wS_no | exact wS_ct | exact wS_bk | exact wS_rt | exact wS_er | simp only [Res.bind, resOf, wM_ok, wM_er, wM_no, wS_nx, wS_rt, wS_bk, wS_ct, wS_er, wS_no, wO_some, wO_none, wG_some, wG_none, wF_okn, wF_oks, wF_er, wF_no, wI_okn, wI_oks, wI_er, wI_no]
@[simp] theorem isAl_no : Sl.isAl .no = false := by first | rfl | exact wM_no | exact wM_er | exact wM_ok | exact wS_nx | exact wS_no | exact wS_ct | exact wS_bk | exact wS_rt | exact wS_er | simp only [Res.bind, resOf, wM_ok, wM_er, wM_no, wS_nx, wS_rt, wS_bk, wS_ct, wS_er, wS_no, wO_some, wO_none, wG_some, wG_none, wF_okn, wF_oks, wF_er, wF_no, wI_okn, wI_oks, wI_er, wI_no]
@[simp] theorem isAl_sh (d : PyData) : Sl.isAl (.sh d) = false := by first | rfl | exact wM_no | exact wM_er | exact wM_ok | exact wS_nx | exact wS_no | exact wS_ct | exact wS_bk | exact wS_rt | exact wS_er | simp only [Res.bind, resOf, wM_ok, wM_er, wM_no, wS_nx, wS_rt, wS_bk, wS_ct, wS_er, wS_no, wO_some, wO_none, wG_some, wG_none, wF_okn, wF_oks, wF_er, wF_no, wI_okn, wI_oks, wI_er, wI_no]
@[simp] theorem isAl_ow (d : PyData) : Sl.isAl (.ow d) = false := by first | rfl | exact wM_no | exact wM_er | exact wM_ok | exact wS_nx | exact wS_no | exact wS_ct | exact wS_bk | exact wS_rt | exact wS_er | simp only [Res.bind, resOf, wM_ok, wM_er, wM_no, wS_nx, wS_rt, wS_bk, wS_ct, wS_er, wS_no, wO_some, wO_none, wG_some, wG_none, wF_okn, wF_oks, wF_er, wF_no, wI_okn, wI_oks, wI_er, wI_no]
@[simp] theorem isAl_raw (v : V) : Sl.isAl (.raw v) = false := by first | rfl | exact wM_no | exact wM_er | exact wM_ok | exact wS_nx | exact wS_no | exact wS_ct | exact wS_bk | exact wS_rt | exact wS_er | simp only [Res.bind, resOf, wM_ok, wM_er, wM_no, wS_nx, wS_rt, wS_bk, wS_ct, wS_er, wS_no, wO_some, wO_none, wG_some, wG_none, wF_okn, wF_oks, wF_er, wF_no, wI_okn, wI_oks, wI_er, wI_no]
@[simp] theorem isAl_io (k : Nat) (d : PyData) : Sl.isAl (.io k d) = false := by first | rfl | exact wM_no | exact wM_er | exact wM_ok | exact wS_nx | exact wS_no | exact wS_ct | exact wS_bk | exact wS_rt | exact wS_er | simp only [Res.bind, resOf, wM_ok, wM_er, wM_no, wS_nx, wS_rt, wS_bk, wS_ct, wS_er, wS_no, wO_some, wO_none, wG_some, wG_none, wF_okn, wF_oks, wF_er, wF_no, wI_okn, wI_oks, wI_er, wI_no]
@[simp ↓] theorem wO_tupG (n : Nat) (gs : GMs) (ds : List PyData) : wO (tupG n gs (.sh (.tuple ds)) δ) Q = (ds.length = n ∧ wO (gs ds δ) Q) := by
  show wO (if ds.length = n then gs ds δ else none) Q = _
  by_cases h : ds.length = n <;> simp [h, wM_ok, wM_er, wM_no, wS_nx, wS_rt, wS_bk, wS_ct, wS_er, wS_no, wO_some, wO_none, wG_some, wG_none, wF_okn, wF_oks, wF_er, wF_no, wI_okn, wI_oks, wI_er, wI_no]
@[simp ↓] theorem wO_cons (g : GM) (gs : GMs) (d : PyData) (r : List PyData) : wO (consG g gs (d :: r) δ) Q = wO (g (.sh d) δ) fun δ1 => wO (gs r δ1) Q := by
  show wO (match g (.sh d) δ with
    | some δ' => gs r δ'
    | none => none) Q = _
  cases g (.sh d) δ <;> first | rfl | exact wM_no | exact wM_er | exact wM_ok | exact wS_nx | exact wS_no | exact wS_ct | exact wS_bk | exact wS_rt | exact wS_er | simp only [Res.bind, resOf, wM_ok, wM_er, wM_no, wS_nx, wS_rt, wS_bk, wS_ct, wS_er, wS_no, wO_some, wO_none, wG_some, wG_none, wF_okn, wF_oks, wF_er, wF_no, wI_okn, wI_oks, wI_er, wI_no]
@[simp ↓] theorem wO_nil : wO (nilG [] δ) Q = Q δ := wO_some _ _
@[simp ↓] theorem wO_sub (i : Nat) (mi : M Sl) (g : PyData → PyData → PyData → Option PyData) (s : Sl) : wO (subG i mi g s δ) Q = match esc s with
  | some d => wM (ownM i δ) fun _ δ1 => wM (mi δ1) fun si δ2 => match datS δ2 si, δ2[i]? with
    | some di, some (.ow c) => wO (g c di d) fun c' => Q (δ2.set i (.ow c'))
    | some di, some (.io k c) => wO (g c di d) fun c' => Q (δ2.set i (.io k c'))
    | _, _ => False
  | none => False := by
  unfold subG
  cases esc s with
  | none => first | rfl | exact wM_no | exact wM_er | exact wM_ok | exact wS_nx | exact wS_no | exact wS_ct | exact wS_bk | exact wS_rt | exact wS_er | simp only [Res.bind, resOf, wM_ok, wM_er, wM_no, wS_nx, wS_rt, wS_bk, wS_ct, wS_er, wS_no, wO_some, wO_none, wG_some, wG_none, wF_okn, wF_oks, wF_er, wF_no, wI_okn, wI_oks, wI_er, wI_no]
  | some d => cases ownM i δ with
    | ok a δ1 =>
      dsimp only
      rw [wM_ok]
      show wO (match mi δ1 with
        | .ok si δ2 => match datS δ2 si, δ2[i]? with
          | some di, some c => if c.own = true then match g c.dat di d with
              | some c' => some (δ2.set i (c.setD c'))
              | none => none
            else none
          | _, _ => none
        | _ => none) Q = (wM (mi δ1) fun si δ2 => match datS δ2 si, δ2[i]? with
          | some di, some (.ow c) => wO (g c di d) fun c' => Q (δ2.set i (.ow c'))
          | some di, some (.io k c) => wO (g c di d) fun c' => Q (δ2.set i (.io k c'))
          | _, _ => False)
      cases mi δ1 with
      | ok si δ2 =>
        rw [wM_ok]
        show wO (match datS δ2 si, δ2[i]? with
          | some di, some c => if c.own = true then match g c.dat di d with
              | some c' => some (δ2.set i (c.setD c'))
              | none => none
            else none
          | _, _ => none) Q = (match datS δ2 si, δ2[i]? with
            | some di, some (.ow c) => wO (g c di d) fun c' => Q (δ2.set i (.ow c'))
            | some di, some (.io k c) => wO (g c di d) fun c' => Q (δ2.set i (.io k c'))
            | _, _ => False)
        cases datS δ2 si with
        | none => first | rfl | exact wM_no | exact wM_er | exact wM_ok | exact wS_nx | exact wS_no | exact wS_ct | exact wS_bk | exact wS_rt | exact wS_er | simp only [Res.bind, resOf, wM_ok, wM_er, wM_no, wS_nx, wS_rt, wS_bk, wS_ct, wS_er, wS_no, wO_some, wO_none, wG_some, wG_none, wF_okn, wF_oks, wF_er, wF_no, wI_okn, wI_oks, wI_er, wI_no]
        | some di => cases δ2[i]? with
          | none => first | rfl | exact wM_no | exact wM_er | exact wM_ok | exact wS_nx | exact wS_no | exact wS_ct | exact wS_bk | exact wS_rt | exact wS_er | simp only [Res.bind, resOf, wM_ok, wM_er, wM_no, wS_nx, wS_rt, wS_bk, wS_ct, wS_er, wS_no, wO_some, wO_none, wG_some, wG_none, wF_okn, wF_oks, wF_er, wF_no, wI_okn, wI_oks, wI_er, wI_no]
          | some c => cases c with
            | ow c => show wO (match g c di d with
                | some c' => some (δ2.set i (.ow c'))
                | none => none) Q = wO (g c di d) _; cases g c di d <;> first | rfl | exact wM_no | exact wM_er | exact wM_ok | exact wS_nx | exact wS_no | exact wS_ct | exact wS_bk | exact wS_rt | exact wS_er | simp only [Res.bind, resOf, wM_ok, wM_er, wM_no, wS_nx, wS_rt, wS_bk, wS_ct, wS_er, wS_no, wO_some, wO_none, wG_some, wG_none, wF_okn, wF_oks, wF_er, wF_no, wI_okn, wI_oks, wI_er, wI_no]
            | io k c => show wO (match g c di d with
                | some c' => some (δ2.set i (.io k c'))
                | none => none) Q = wO (g c di d) _; cases g c di d <;> first | rfl | exact wM_no | exact wM_er | exact wM_ok | exact wS_nx | exact wS_no | exact wS_ct | exact wS_bk | exact wS_rt | exact wS_er | simp only [Res.bind, resOf, wM_ok, wM_er, wM_no, wS_nx, wS_rt, wS_bk, wS_ct, wS_er, wS_no, wO_some, wO_none, wG_some, wG_none, wF_okn, wF_oks, wF_er, wF_no, wI_okn, wI_oks, wI_er, wI_no]
            | _ => exact wO_none _
      | _ => first | rfl | exact wM_no | exact wM_er | exact wM_ok | exact wS_nx | exact wS_no | exact wS_ct | exact wS_bk | exact wS_rt | exact wS_er | simp only [Res.bind, resOf, wM_ok, wM_er, wM_no, wS_nx, wS_rt, wS_bk, wS_ct, wS_er, wS_no, wO_some, wO_none, wG_some, wG_none, wF_okn, wF_oks, wF_er, wF_no, wI_okn, wI_oks, wI_er, wI_no]
    | _ => first | rfl | exact wM_no | exact wM_er | exact wM_ok | exact wS_nx | exact wS_no | exact wS_ct | exact wS_bk | exact wS_rt | exact wS_er | simp only [Res.bind, resOf, wM_ok, wM_er, wM_no, wS_nx, wS_rt, wS_bk, wS_ct, wS_er, wS_no, wO_some, wO_none, wG_some, wG_none, wF_okn, wF_oks, wF_er, wF_no, wI_okn, wI_oks, wI_er, wI_no]
end
/-! ### comprehensions -/
section
variable {δ : List Sl} {m : M Sl} {t : M Bool} {g : GM} {vs : List Nat} {Q : List PyData → List Sl → Prop}
@[simp ↓] theorem wL_nil {acc : List PyData} : wM (lcL g t m vs [] acc δ) Q = Q acc δ := by first | rfl | exact wM_no | exact wM_er | exact wM_ok | exact wS_nx | exact wS_no | exact wS_ct | exact wS_bk | exact wS_rt | exact wS_er | simp only [Res.bind, resOf, wM_ok, wM_er, wM_no, wS_nx, wS_rt, wS_bk, wS_ct, wS_er, wS_no, wO_some, wO_none, wG_some, wG_none, wF_okn, wF_oks, wF_er, wF_no, wI_okn, wI_oks, wI_er, wI_no]
theorem wL_cons {acc r : List PyData} {d : PyData} : wM (lcL g t m vs (d :: r) acc δ) Q = wO (g (.sh d) δ) fun δ1 => wM (t δ1) fun b δ2 => (b = true → wM (m δ2) fun s δ3 => match esc s with
    | some y => acc.length < 1000000 ∧ wM (lcL g t m vs r (acc ++ [y]) (wipeD δ3 vs)) Q
    | none => False) ∧ (b = false → wM (lcL g t m vs r acc (wipeD δ2 vs)) Q) := by
  rw [lcL]
  cases g (.sh d) δ with
  | none => first | rfl | exact wM_no | exact wM_er | exact wM_ok | exact wS_nx | exact wS_no | exact wS_ct | exact wS_bk | exact wS_rt | exact wS_er | simp only [Res.bind, resOf, wM_ok, wM_er, wM_no, wS_nx, wS_rt, wS_bk, wS_ct, wS_er, wS_no, wO_some, wO_none, wG_some, wG_none, wF_okn, wF_oks, wF_er, wF_no, wI_okn, wI_oks, wI_er, wI_no]
  | some δ1 =>
    rw [wO_some]
    dsimp only
    cases t δ1 with
    | ok b δ2 => cases b with
      | true =>
        rw [wM_ok]
        refine Eq.trans ?_ (show _ = (_ ∧ _) from propext ⟨fun h => ⟨fun _ => h, fun z => nomatch z⟩, fun h => h.1 rfl⟩)
        show wM (match m δ2 with
          | .ok s δ3 => match esc s with
            | some y => if acc.length < 1000000 then lcL g t m vs r (acc ++ [y]) (wipeD δ3 vs) else .no
            | none => .no
          | _ => .no) Q = wM (m δ2) _
        cases m δ2 with
        | ok s δ3 =>
          rw [wM_ok]
          show wM (match esc s with
            | some y => if acc.length < 1000000 then lcL g t m vs r (acc ++ [y]) (wipeD δ3 vs) else .no
            | none => .no) Q = (match esc s with
            | some y => acc.length < 1000000 ∧ wM (lcL g t m vs r (acc ++ [y]) (wipeD δ3 vs)) Q
            | none => False)
          cases esc s with
          | none => first | rfl | exact wM_no | exact wM_er | exact wM_ok | exact wS_nx | exact wS_no | exact wS_ct | exact wS_bk | exact wS_rt | exact wS_er | simp only [Res.bind, resOf, wM_ok, wM_er, wM_no, wS_nx, wS_rt, wS_bk, wS_ct, wS_er, wS_no, wO_some, wO_none, wG_some, wG_none, wF_okn, wF_oks, wF_er, wF_no, wI_okn, wI_oks, wI_er, wI_no]
          | some y =>
            show wM (if acc.length < 1000000 then lcL g t m vs r (acc ++ [y]) (wipeD δ3 vs) else .no) Q = (acc.length < 1000000 ∧ wM (lcL g t m vs r (acc ++ [y]) (wipeD δ3 vs)) Q)
            by_cases h : acc.length < 1000000 <;> simp [h, wM_ok, wM_er, wM_no, wS_nx, wS_rt, wS_bk, wS_ct, wS_er, wS_no, wO_some, wO_none, wG_some, wG_none, wF_okn, wF_oks, wF_er, wF_no, wI_okn, wI_oks, wI_er, wI_no]
        | _ => first | rfl | exact wM_no | exact wM_er | exact wM_ok | exact wS_nx | exact wS_no | exact wS_ct | exact wS_bk | exact wS_rt | exact wS_er | simp only [Res.bind, resOf, wM_ok, wM_er, wM_no, wS_nx, wS_rt, wS_bk, wS_ct, wS_er, wS_no, wO_some, wO_none, wG_some, wG_none, wF_okn, wF_oks, wF_er, wF_no, wI_okn, wI_oks, wI_er, wI_no]
      | false =>
        rw [wM_ok]
        exact propext ⟨fun h => ⟨fun z => (nomatch z), fun _ => h⟩, fun h => h.2 rfl⟩
    | _ => first | rfl | exact wM_no | exact wM_er | exact wM_ok | exact wS_nx | exact wS_no | exact wS_ct | exact wS_bk | exact wS_rt | exact wS_er | simp only [Res.bind, resOf, wM_ok, wM_er, wM_no, wS_nx, wS_rt, wS_bk, wS_ct, wS_er, wS_no, wO_some, wO_none, wG_some, wG_none, wF_okn, wF_oks, wF_er, wF_no, wI_okn, wI_oks, wI_er, wI_no]
/-- a comprehension whose names stay as they were: what is kept, each made over -/
theorem wL_map (p : PyData → Bool) (f : PyData → PyData) : ∀ (items acc : List PyData), items.length + acc.length ≤ 1000000 →
    (∀ d ∈ items, wO (g (.sh d) δ) fun δ1 => wM (t δ1) fun b δ2 => b = p d ∧ (b = true → wM (m δ2) fun s δ3 => esc s = some (f d) ∧ wipeD δ3 vs = δ) ∧ (b = false → wipeD δ2 vs = δ)) →
    Q (acc ++ (items.filter p).map f) δ → wM (lcL g t m vs items acc δ) Q
  | [], acc, _, _, q => by rw [wL_nil]; simpa using q
  | d :: r, acc, hz, h, q => by
    rw [wL_cons]
    refine (h d List.mem_cons_self).mono fun δ1 h1 => h1.mono fun b δ2 h2 => ⟨fun hb => ?_, fun hb => ?_⟩
    · refine (h2.2.1 hb).mono fun s δ3 h3 => ?_
      rw [h3.1]
      dsimp only
      simp only [List.length_cons] at hz
      refine ⟨by omega, ?_⟩
      rw [h3.2]
      refine wL_map p f r _ (by simp; omega) (fun x hx => h x (List.mem_cons_of_mem _ hx)) ?_
      have : p d = true := by rw [← h2.1, hb]
      simpa [List.filter_cons, this] using q
    · rw [h2.2.2 hb]
      simp only [List.length_cons] at hz
      refine wL_map p f r _ (by omega) (fun x hx => h x (List.mem_cons_of_mem _ hx)) ?_
      have : p d = false := by rw [← h2.1, hb]
      simpa [List.filter_cons, this] using q
@[simp ↓] theorem wM_yes {P : Bool → List Sl → Prop} : wM (yesM δ) P = P true δ := by first | rfl | exact wM_no | exact wM_er | exact wM_ok | exact wS_nx | exact wS_no | exact wS_ct | exact wS_bk | exact wS_rt | exact wS_er | simp only [Res.bind, resOf, wM_ok, wM_er, wM_no, wS_nx, wS_rt, wS_bk, wS_ct, wS_er, wS_no, wO_some, wO_none, wG_some, wG_none, wF_okn, wF_oks, wF_er, wF_no, wI_okn, wI_oks, wI_er, wI_no]
@[simp] theorem wipe_nil : wipeD δ [] = δ := by first | rfl | exact wM_no | exact wM_er | exact wM_ok | exact wS_nx | exact wS_no | exact wS_ct | exact wS_bk | exact wS_rt | exact wS_er | simp only [Res.bind, resOf, wM_ok, wM_er, wM_no, wS_nx, wS_rt, wS_bk, wS_ct, wS_er, wS_no, wO_some, wO_none, wG_some, wG_none, wF_okn, wF_oks, wF_er, wF_no, wI_okn, wI_oks, wI_er, wI_no]
@[simp] theorem wipe_cons (v : Nat) (r : List Nat) : wipeD δ (v :: r) = (wipeD δ r).set v .no := by first | rfl | exact wM_no | exact wM_er | exact wM_ok | exact wS_nx | exact wS_no | exact wS_ct | exact wS_bk | exact wS_rt | exact wS_er | simp only [Res.bind, resOf, wM_ok, wM_er, wM_no, wS_nx, wS_rt, wS_bk, wS_ct, wS_er, wS_no, wO_some, wO_none, wG_some, wG_none, wF_okn, wF_oks, wF_er, wF_no, wI_okn, wI_oks, wI_er, wI_no]
end
/-! ### defs -/
theorem wF_runP {n : Nat} {m : SM} {ds : List PyData} {Q : Sl → Prop} : wF (runP n m ds) Q = wS (m (ds.map .sh ++ List.replicate (n - (ds.map Sl.sh).length) .no)) (fun _ => Q (.sh .none)) (fun r _ => match r with
    | .sh d => Q (.sh d)
    | .ow d => Q (.ow d)
    | .raw v => Q (.raw v)
    | _ => False) (fun _ => False) (fun _ => False) := by
  unfold runP startD
  cases m (ds.map .sh ++ List.replicate (n - (ds.map Sl.sh).length) .no) with
  | rt r δ => cases r <;> first | rfl | exact wM_no | exact wM_er | exact wM_ok | exact wS_nx | exact wS_no | exact wS_ct | exact wS_bk | exact wS_rt | exact wS_er | simp only [Res.bind, resOf, wM_ok, wM_er, wM_no, wS_nx, wS_rt, wS_bk, wS_ct, wS_er, wS_no, wO_some, wO_none, wG_some, wG_none, wF_okn, wF_oks, wF_er, wF_no, wI_okn, wI_oks, wI_er, wI_no]
  | _ => first | rfl | exact wM_no | exact wM_er | exact wM_ok | exact wS_nx | exact wS_no | exact wS_ct | exact wS_bk | exact wS_rt | exact wS_er | simp only [Res.bind, resOf, wM_ok, wM_er, wM_no, wS_nx, wS_rt, wS_bk, wS_ct, wS_er, wS_no, wO_some, wO_none, wG_some, wG_none, wF_okn, wF_oks, wF_er, wF_no, wI_okn, wI_oks, wI_er, wI_no]
theorem wI_runI {n : Nat} {m : SM} {d0 : PyData} {ds : List PyData} {Q : Sl → PyData → Prop} : wI (runI n m d0 ds) Q = wS (m (Sl.io 0 d0 :: ds.map .sh ++ List.replicate (n - (Sl.io 0 d0 :: ds.map Sl.sh).length) .no)) (fun δ => match (δ[0]? : Option Sl) with
    | some (Sl.io _ d) => Q (.sh .none) d
    | _ => False) (fun r δ => match r, (δ[0]? : Option Sl) with
    | .sh x, some (Sl.io _ d) => Q (.sh x) d
    | .ow x, some (Sl.io _ d) => Q (.ow x) d
    | .raw x, some (Sl.io _ d) => Q (.raw x) d
    | _, _ => False) (fun _ => False) (fun _ => False) := by
  unfold runI startD
  cases m (Sl.io 0 d0 :: ds.map .sh ++ List.replicate (n - (Sl.io 0 d0 :: ds.map Sl.sh).length) .no) with
  | rt r δ =>
    rw [wS_rt]
    show wI (match resOf r, δ[0]? with
      | some s, some (Sl.io _ d) => .ok s (some d)
      | _, _ => .no) Q = (match r, (δ[0]? : Option Sl) with
    | .sh x, some (Sl.io _ d) => Q (.sh x) d
    | .ow x, some (Sl.io _ d) => Q (.ow x) d
    | .raw x, some (Sl.io _ d) => Q (.raw x) d
    | _, _ => False)
    cases δ[0]? with
    | none => cases r <;> first | rfl | exact wM_no | exact wM_er | exact wM_ok | exact wS_nx | exact wS_no | exact wS_ct | exact wS_bk | exact wS_rt | exact wS_er | simp only [Res.bind, resOf, wM_ok, wM_er, wM_no, wS_nx, wS_rt, wS_bk, wS_ct, wS_er, wS_no, wO_some, wO_none, wG_some, wG_none, wF_okn, wF_oks, wF_er, wF_no, wI_okn, wI_oks, wI_er, wI_no]
    | some s => cases r <;> cases s <;> first | rfl | exact wM_no | exact wM_er | exact wM_ok | exact wS_nx | exact wS_no | exact wS_ct | exact wS_bk | exact wS_rt | exact wS_er | simp only [Res.bind, resOf, wM_ok, wM_er, wM_no, wS_nx, wS_rt, wS_bk, wS_ct, wS_er, wS_no, wO_some, wO_none, wG_some, wG_none, wF_okn, wF_oks, wF_er, wF_no, wI_okn, wI_oks, wI_er, wI_no]
  | nx δ =>
    rw [wS_nx]
    show wI (match δ[0]? with
      | some (Sl.io _ d) => .ok (.sh .none) (some d)
      | _ => .no) Q = (match δ[0]? with
    | some (Sl.io _ d) => Q (.sh .none) d
    | _ => False)
    cases δ[0]? with
    | none => first | rfl | exact wM_no | exact wM_er | exact wM_ok | exact wS_nx | exact wS_no | exact wS_ct | exact wS_bk | exact wS_rt | exact wS_er | simp only [Res.bind, resOf, wM_ok, wM_er, wM_no, wS_nx, wS_rt, wS_bk, wS_ct, wS_er, wS_no, wO_some, wO_none, wG_some, wG_none, wF_okn, wF_oks, wF_er, wF_no, wI_okn, wI_oks, wI_er, wI_no]
    | some s => cases s <;> first | rfl | exact wM_no | exact wM_er | exact wM_ok | exact wS_nx | exact wS_no | exact wS_ct | exact wS_bk | exact wS_rt | exact wS_er | simp only [Res.bind, resOf, wM_ok, wM_er, wM_no, wS_nx, wS_rt, wS_bk, wS_ct, wS_er, wS_no, wO_some, wO_none, wG_some, wG_none, wF_okn, wF_oks, wF_er, wF_no, wI_okn, wI_oks, wI_er, wI_no]
  | _ => first | rfl | exact wM_no | exact wM_er | exact wM_ok | exact wS_nx | exact wS_no | exact wS_ct | exact wS_bk | exact wS_rt | exact wS_er | simp only [Res.bind, resOf, wM_ok, wM_er, wM_no, wS_nx, wS_rt, wS_bk, wS_ct, wS_er, wS_no, wO_some, wO_none, wG_some, wG_none, wF_okn, wF_oks, wF_er, wF_no, wI_okn, wI_oks, wI_er, wI_no]
theorem wF_ok {x : FRes} {r : Sl} (h : wF x fun s => s = r) : x = .ok r none := by
  obtain ⟨s, e, q⟩ := h
  rw [e]
  exact congrArg (FRes.ok · none) q
/-! ### operations on literal kinds -/
section
variable {δ : List Sl} {Q : Sl → List Sl → Prop} {i j : Int} {k l : List PyData} {a b : Str} {x y : Bool}
theorem wG_if {c : Prop} [Decidable c] {o : Out} : wG (if c then some o else none) δ Q = (c ∧ Q o.sl δ) := by
  by_cases h : c <;> simp [h, wM_ok, wM_er, wM_no, wS_nx, wS_rt, wS_bk, wS_ct, wS_er, wS_no, wO_some, wO_none, wG_some, wG_none, wF_okn, wF_oks, wF_er, wF_no, wI_okn, wI_oks, wI_er, wI_no]
@[simp ↓] theorem wg_add : wG (gAdd [.int i, .int j]) δ Q = Q (.sh (.int (i + j))) δ := wG_some
@[simp ↓] theorem wg_adds : wG (gAdd [.str a, .str b]) δ Q = (a.length + b.length ≤ 1000000 ∧ Q (.sh (.str (a ++ b))) δ) := wG_if
@[simp ↓] theorem wg_addl : wG (gAdd [.list k, .list l]) δ Q = (k.length + l.length ≤ 1000000 ∧ Q (.ow (.list (k ++ l))) δ) := wG_if
@[simp ↓] theorem wg_addt : wG (gAdd [.tuple k, .tuple l]) δ Q = (k.length + l.length ≤ 1000000 ∧ Q (.sh (.tuple (k ++ l))) δ) := wG_if
@[simp ↓] theorem wg_sub : wG (gSub [.int i, .int j]) δ Q = Q (.sh (.int (i - j))) δ := wG_some
@[simp ↓] theorem wg_mul : wG (gMul [.int i, .int j]) δ Q = (mulOk i j = true ∧ Q (.sh (.int (i * j))) δ) := wG_if
@[simp ↓] theorem wg_mulA : wG (gMulA [.int i, .int j]) δ Q = (mulOk i j = true ∧ Q (.sh (.int (i * j))) δ) := wG_if
@[simp ↓] theorem wg_mulT : wG (gMulA [.tuple k, .int j]) δ Q = ((k ≠ [] ∧ 2 ≤ j ∧ j ≤ 1000 ∧ k.length ≤ 1000 ∧ keyish (List.replicate j.toNat k).flatten = true) ∧ Q (.sh (.tuple (List.replicate j.toNat k).flatten)) δ) := wG_if
@[simp ↓] theorem wg_div : wG (gDiv [.int i, .int j]) δ Q = (divOk i j = true ∧ Q (.sh (.int (i / j))) δ) := wG_if
@[simp ↓] theorem wg_mod : wG (gMod [.int i, .int j]) δ Q = (0 < j ∧ Q (.sh (.int (i % j))) δ) := by
  refine (wG_if (c := decide (0 < j) = true)).trans ?_
  simp only [decide_eq_true_eq, Out.sl]
@[simp ↓] theorem wg_pow : wG (gPow [.int i, .int j]) δ Q = (powOk i j = true ∧ Q (.sh (.int (i ^ j.toNat))) δ) := wG_if
@[simp ↓] theorem wg_shl : wG (gShl [.int i, .int j]) δ Q = (powOk i j = true ∧ Q (.sh (.int (i * 2 ^ j.toNat))) δ) := wG_if
@[simp ↓] theorem wg_shr : wG (gShr [.int i, .int j]) δ Q = (0 ≤ j ∧ Q (.sh (.int (i / 2 ^ j.toNat))) δ) := by
  refine (wG_if (c := decide (0 ≤ j) = true)).trans ?_
  simp only [decide_eq_true_eq, Out.sl]
@[simp ↓] theorem wg_neg : wG (gNeg [.int i]) δ Q = Q (.sh (.int (-i))) δ := wG_some
@[simp ↓] theorem wg_lt : wG (gLt [.int i, .int j]) δ Q = Q (.sh (.bool (decide (i < j)))) δ := wG_some
@[simp ↓] theorem wg_le : wG (gLe [.int i, .int j]) δ Q = Q (.sh (.bool (decide (i ≤ j)))) δ := wG_some
@[simp ↓] theorem wg_gt : wG (gGt [.int i, .int j]) δ Q = Q (.sh (.bool (decide (j < i)))) δ := wG_some
@[simp ↓] theorem wg_ge : wG (gGe [.int i, .int j]) δ Q = Q (.sh (.bool (decide (j ≤ i)))) δ := wG_some
@[simp ↓] theorem wg_eqi : wG (gEq [.int i, .int j]) δ Q = Q (.sh (.bool (decide (i = j)))) δ := wG_some
@[simp ↓] theorem wg_eqs : wG (gEq [.str a, .str b]) δ Q = Q (.sh (.bool (decide (a = b)))) δ := wG_some
@[simp ↓] theorem wg_eqb : wG (gEq [.bool x, .bool y]) δ Q = Q (.sh (.bool (decide (x = y)))) δ := wG_some
@[simp ↓] theorem wg_nei : wG (gNe [.int i, .int j]) δ Q = Q (.sh (.bool (!decide (i = j)))) δ := wG_some
@[simp ↓] theorem wg_nes : wG (gNe [.str a, .str b]) δ Q = Q (.sh (.bool (!decide (a = b)))) δ := wG_some
@[simp ↓] theorem wg_neb : wG (gNe [.bool x, .bool y]) δ Q = Q (.sh (.bool (!decide (x = y)))) δ := wG_some
theorem wg_eqD {d e : PyData} (h : scalD d e = none) : wG (gEq [d, e]) δ Q = ((SeqAt.shaped d = true ∧ SeqAt.shaped e = true) ∧ Q (.sh (.bool (PyData.eqv d e))) δ) := by
  show wG ((eqD d e).map fun b => .sh (.bool b)) δ Q = _
  unfold eqD
  rw [h]
  dsimp only
  by_cases z : SeqAt.shaped d = true ∧ SeqAt.shaped e = true <;> simp [z, Out.sl, wM_ok, wM_er, wM_no, wS_nx, wS_rt, wS_bk, wS_ct, wS_er, wS_no, wO_some, wO_none, wG_some, wG_none, wF_okn, wF_oks, wF_er, wF_no, wI_okn, wI_oks, wI_er, wI_no]
theorem wg_neD {d e : PyData} (h : scalD d e = none) : wG (gNe [d, e]) δ Q = ((SeqAt.shaped d = true ∧ SeqAt.shaped e = true) ∧ Q (.sh (.bool (!PyData.eqv d e))) δ) := by
  show wG ((eqD d e).map fun b => .sh (.bool (!b))) δ Q = _
  unfold eqD
  rw [h]
  dsimp only
  by_cases z : SeqAt.shaped d = true ∧ SeqAt.shaped e = true <;> simp [z, Out.sl, wM_ok, wM_er, wM_no, wS_nx, wS_rt, wS_bk, wS_ct, wS_er, wS_no, wO_some, wO_none, wG_some, wG_none, wF_okn, wF_oks, wF_er, wF_no, wI_okn, wI_oks, wI_er, wI_no]
@[simp ↓] theorem wg_eqt : wG (gEq [.tuple k, .tuple l]) δ Q = ((SeqAt.shaped (.tuple k) = true ∧ SeqAt.shaped (.tuple l) = true) ∧ Q (.sh (.bool (PyData.eqv (.tuple k) (.tuple l)))) δ) := wg_eqD rfl
@[simp ↓] theorem wg_eql : wG (gEq [.list k, .list l]) δ Q = ((SeqAt.shaped (.list k) = true ∧ SeqAt.shaped (.list l) = true) ∧ Q (.sh (.bool (PyData.eqv (.list k) (.list l)))) δ) := wg_eqD rfl
@[simp ↓] theorem wg_net : wG (gNe [.tuple k, .tuple l]) δ Q = ((SeqAt.shaped (.tuple k) = true ∧ SeqAt.shaped (.tuple l) = true) ∧ Q (.sh (.bool (!PyData.eqv (.tuple k) (.tuple l)))) δ) := wg_neD rfl
@[simp ↓] theorem wg_nel : wG (gNe [.list k, .list l]) δ Q = ((SeqAt.shaped (.list k) = true ∧ SeqAt.shaped (.list l) = true) ∧ Q (.sh (.bool (!PyData.eqv (.list k) (.list l)))) δ) := wg_neD rfl
@[simp ↓] theorem wg_ixl : wG (gIx [.list l, .int i]) δ Q = wO (atI l i) fun d => Q (.sh d) δ := by
  show wG ((atI l i).map .sh) δ Q = _
  cases atI l i with
  | none => exact wG_none.trans (wO_none _).symm
  | some x => rw [wO_some]; exact wG_some
@[simp ↓] theorem wg_ixt : wG (gIx [.tuple l, .int i]) δ Q = wO (atI l i) fun d => Q (.sh d) δ := by
  show wG ((atI l i).map .sh) δ Q = _
  cases atI l i with
  | none => exact wG_none.trans (wO_none _).symm
  | some x => rw [wO_some]; exact wG_some
@[simp ↓] theorem wg_lenl : wG (gLen [.list l]) δ Q = Q (.sh (.int (l.length : Nat))) δ := wG_some
@[simp ↓] theorem wg_lent : wG (gLen [.tuple l]) δ Q = Q (.sh (.int (l.length : Nat))) δ := wG_some
@[simp ↓] theorem wg_lens : wG (gLen [.str a]) δ Q = (a.length ≤ 1000000 ∧ Q (.sh (.int (a.length : Nat))) δ) := wG_if
@[simp ↓] theorem wg_list1 : wG (gList [.list l]) δ Q = Q (.ow (.list l)) δ := wG_some
@[simp ↓] theorem wg_list2 : wG (gList [.tuple l]) δ Q = Q (.ow (.list l)) δ := wG_some
@[simp ↓] theorem wg_tuple1 : wG (gTuple [.list l]) δ Q = Q (.sh (.tuple l)) δ := wG_some
@[simp ↓] theorem wg_tuple2 : wG (gTuple [.tuple l]) δ Q = Q (.sh (.tuple l)) δ := wG_some
@[simp ↓] theorem wg_min : wG (gMin2 [.int i, .int j]) δ Q = Q (.sh (.int (if j < i then j else i))) δ := wG_some
@[simp ↓] theorem wg_max : wG (gMax2 [.int i, .int j]) δ Q = Q (.sh (.int (if j > i then j else i))) δ := wG_some
@[simp ↓] theorem wg_sum : wG (gSum [.list l]) δ Q = wO (ints? l) fun ns => Q (.sh (.int ns.sum)) δ := by
  show wG ((ints? l).map fun ns => .sh (.int ns.sum)) δ Q = _
  cases ints? l with
  | none => exact wG_none.trans (wO_none _).symm
  | some x => rw [wO_some]; exact wG_some
@[simp ↓] theorem wg_all : wG (gAll [.list l]) δ Q = wO (bls? l) fun ns => Q (.sh (.bool (ns.all id))) δ := by
  show wG ((bls? l).map fun ns => .sh (.bool (ns.all id))) δ Q = _
  cases bls? l with
  | none => exact wG_none.trans (wO_none _).symm
  | some x => rw [wO_some]; exact wG_some
@[simp ↓] theorem wg_sll {lo hi : Option Int} : wG (gSlice lo hi (.list l)) δ Q = Q (.ow (.list (cutD l lo hi))) δ := wG_some
@[simp ↓] theorem wg_slt {lo hi : Option Int} : wG (gSlice lo hi (.tuple l)) δ Q = Q (.sh (.tuple (cutD l lo hi))) δ := wG_some
@[simp ↓] theorem wg_rev : wG (gRev [.list l]) δ Q = Q (.ow (.list l.reverse)) δ := wG_some
theorem in_ints {i : Int} : ∀ l : List Int, inD (.int i) (l.map .int) = decide (i ∈ l)
  | [] => rfl
  | z :: r => by
    have q := in_ints (i := i) r
    unfold inD inV at q ⊢
    simp only [List.map_cons, List.any_cons, q]
    show (eqV (.int z) (.int i) || _) = _
    have : eqV (.int z) (.int i) = decide (i = z) := by
      show (z == i) = decide (i = z)
      by_cases h : i = z
      · subst h; simp
      · simp [h, Ne.symm h]
    rw [this]
    by_cases h : i = z <;> by_cases h2 : i ∈ r <;> simp [h, h2]
theorem flat_ints : ∀ l : List Int, (l.map PyData.int).all flatD = true
  | [] => rfl
  | z :: r => by simp [flatD]
@[simp ↓] theorem wg_inI {n : List Int} : wG (gIn false [.int i, .list (n.map .int)]) δ Q = Q (.sh (.bool (decide (i ∈ n)))) δ := by
  show wG (if flatD (.int i) = true ∧ (n.map PyData.int).all flatD = true then some (.sh (.bool (inD (.int i) (n.map .int)))) else none) δ Q = _
  rw [if_pos ⟨rfl, flat_ints n⟩, in_ints]
  exact wG_some
@[simp ↓] theorem wo_set {d : PyData} {Q : PyData → Prop} : wO (sAt (.list l) (.int i) d) Q = wO (ixN l.length i) fun j => Q (.list (l.set j d)) := by
  show wO ((ixN l.length i).map fun j => .list (l.set j d)) Q = _
  cases ixN l.length i with
  | none => exact (wO_none _).trans (wO_none _).symm
  | some x => rw [wO_some]; exact wO_some _ _
@[simp ↓] theorem wm_app {d : PyData} {Q : PyData → PyData → Prop} : wMu (mAppend (.list l) [d]) Q = (l.length < 1000000 ∧ Q .none (.list (l ++ [d]))) := by
  show wMu (if l.length < 1000000 then some (.none, .list (l ++ [d])) else none) Q = _
  by_cases h : l.length < 1000000 <;> simp [h, wMu_some, wMu_none]
@[simp ↓] theorem wm_ext {Q : PyData → PyData → Prop} : wMu (mExtend (.list l) [.list k]) Q = (l.length + k.length ≤ 1000000 ∧ Q .none (.list (l ++ k))) := by
  show wMu (if l.length + k.length ≤ 1000000 then some (.none, .list (l ++ k)) else none) Q = _
  by_cases h : l.length + k.length ≤ 1000000 <;> simp [h, wMu_some, wMu_none]
theorem at_ok {α : Type} {xs : List α} {i : Int} {Q : α → Prop} (h0 : 0 ≤ i) (h1 : i < xs.length) (q : Q (xs[i.toNat]'(by omega))) : wO (atI xs i) Q := by
  unfold atI ixN
  rw [if_pos h0, if_pos h1]
  show wO xs[i.toNat]? Q
  rw [List.getElem?_eq_getElem (by omega), wO_some]
  exact q
theorem at_last {α : Type} {xs : List α} {Q : α → Prop} (h : xs ≠ []) (q : Q (xs.getLast h)) : wO (atI xs (-1)) Q := by
  unfold atI ixN
  have := List.length_pos_iff.mpr h
  rw [if_neg (by omega), if_pos (by omega)]
  show wO xs[(-1 + (xs.length : Int)).toNat]? Q
  rw [show (-1 + (xs.length : Int)).toNat = xs.length - 1 from by omega, ← List.getLast?_eq_getElem?, List.getLast?_eq_some_getLast h, wO_some]
  exact q
end
section
variable {α : Type} {a b c d e f g h : α} {r : List α}
@[simp] theorem at0 : atI (a :: r) 0 = some a := by
  unfold atI ixN
  rw [if_pos (by omega), if_pos (by simp only [List.length_cons]; omega)]
  rfl
@[simp] theorem at1 : atI (a :: b :: r) 1 = some b := by
  unfold atI ixN
  rw [if_pos (by omega), if_pos (by simp only [List.length_cons]; omega)]
  rfl
@[simp] theorem at2 : atI (a :: b :: c :: r) 2 = some c := by
  unfold atI ixN
  rw [if_pos (by omega), if_pos (by simp only [List.length_cons]; omega)]
  rfl
@[simp] theorem at3 : atI (a :: b :: c :: d :: r) 3 = some d := by
  unfold atI ixN
  rw [if_pos (by omega), if_pos (by simp only [List.length_cons]; omega)]
  rfl
@[simp] theorem at4 : atI (a :: b :: c :: d :: e :: r) 4 = some e := by
  unfold atI ixN
  rw [if_pos (by omega), if_pos (by simp only [List.length_cons]; omega)]
  rfl
@[simp] theorem at5 : atI (a :: b :: c :: d :: e :: f :: r) 5 = some f := by
  unfold atI ixN
  rw [if_pos (by omega), if_pos (by simp only [List.length_cons]; omega)]
  rfl
@[simp] theorem ix0 {n : Nat} : ixN (n + 1) 0 = some 0 := by
  unfold ixN
  rw [if_pos (by omega), if_pos (by omega)]
  rfl
@[simp] theorem ix1 {n : Nat} : ixN (n + 1 + 1) 1 = some 1 := by
  unfold ixN
  rw [if_pos (by omega), if_pos (by omega)]
  rfl
@[simp] theorem ix2 {n : Nat} : ixN (n + 1 + 1 + 1) 2 = some 2 := by
  unfold ixN
  rw [if_pos (by omega), if_pos (by omega)]
  rfl
end
end DL

set_option Elab.async false
set_option linter.all false
set_option maxRecDepth 100000
namespace DL
open PySem PySem.Spec PyProof.Rows L2
/-! ### what the operations ask, for small ints -/
abbrev big : Int := 2582249878086908589655919172003011874329705792829223512830659356540647622016841194629645353280137831435903171972747493376
theorem log_lt {i : Int} {k : Nat} (h : i.natAbs < 2 ^ k) (hk : 0 < k) : i.natAbs.log2 < k := by
  by_cases z : i.natAbs = 0
  · rw [z]; simpa using hk
  · exact (Nat.log2_lt z).mpr h
theorem mul_ok {i j : Int} (h1 : -big < i) (h2 : i < big) (h3 : -big < j) (h4 : j < big) : mulOk i j = true := by
  have e : (2 : Nat) ^ 400 = 2582249878086908589655919172003011874329705792829223512830659356540647622016841194629645353280137831435903171972747493376 := by decide +kernel
  have a := log_lt (i := i) (k := 400) (by rw [e]; unfold big at *; omega) (by omega)
  have b := log_lt (i := j) (k := 400) (by rw [e]; unfold big at *; omega) (by omega)
  unfold mulOk
  exact decide_eq_true (by omega)
theorem div_ok {i j : Int} (h1 : 0 < j) (h2 : j < big) : divOk i j = true := by
  have e : (2 : Nat) ^ 400 = 2582249878086908589655919172003011874329705792829223512830659356540647622016841194629645353280137831435903171972747493376 := by decide +kernel
  have a := log_lt (i := j) (k := 400) (by rw [e]; unfold big at *; omega) (by omega)
  unfold divOk
  rw [decide_eq_true h1, decide_eq_true (by omega : j.natAbs.log2 < 9000)]
  rfl
theorem pow_ok {i j : Int} (h1 : 0 ≤ j) (h2 : j ≤ 1000000) (h3 : -18446744073709551616 < i) (h4 : i < 18446744073709551616) : powOk i j = true := by
  unfold powOk
  have e : (2 : Nat) ^ 64 = 18446744073709551616 := by decide +kernel
  rw [decide_eq_true h1, decide_eq_true h2, decide_eq_true (by rw [e]; omega : i.natAbs < 2 ^ 64)]
  rfl
end DL

set_option Elab.async false
set_option linter.all false
set_option maxRecDepth 100000
set_option maxHeartbeats 1000000
namespace DL
open PySem PySem.Spec PyProof.Rows L2
/-! ### dicts of str and int keys -/
def keyed : PyData → Key → Bool
  | .int i, .inl j => decide (i = j)
  | .str s, .inr t => decide (s = t)
  | _, _ => false
def keyOf : PyData → Option Key
  | .int i => some (.inl i)
  | .str s => some (.inr s)
  | _ => none
def dget (ds : List (PyData × PyData)) (k : Key) : Option PyData := (ds.find? fun kv => keyed kv.1 k).map (·.2)
def dput : List (PyData × PyData) → Key → PyData → List (PyData × PyData)
  | [], k, d => [(keyD k, d)]
  | p :: r, k, d => if keyed p.1 k = true then (p.1, d) :: r.map (fun kv => if keyed kv.1 k = true then (kv.1, d) else kv) else p :: dput r k d
/-- not the mark of a dict of tuples -/
def isK : List (PyData × PyData) → Bool
  | (.none, _) :: _ => false
  | _ => true
/-! keys that are tuples -/
def toKey : PyData → Key
  | .int i => .inl i
  | .str s => .inr s
  | _ => .inl 0
def tkeyOf : PyData → Option (List Key)
  | .tuple ds => if ds.all keyItem = true then some (ds.map toKey) else none
  | _ => none
def qkey : PyData → Option (List Key)
  | .tuple ds => if keyish ds = true then some (ds.map toKey) else none
  | _ => none
def tkeyed (d : PyData) (k : List Key) : Bool := decide (tkeyOf d = some k)
def tget (ds : List (PyData × PyData)) (k : List Key) : Option PyData := (ds.find? fun kv => tkeyed kv.1 k).map (·.2)
def tput : List (PyData × PyData) → List Key → PyData → List (PyData × PyData)
  | [], k, d => [(.tuple (k.map keyD), d)]
  | p :: r, k, d => if tkeyed p.1 k = true then (p.1, d) :: r.map (fun kv => if tkeyed kv.1 k = true then (kv.1, d) else kv) else p :: tput r k d
/-- the entries of a dict of tuples -/
def unT : List (PyData × PyData) → Option (List (PyData × PyData))
  | (.none, .none) :: es => some es
  | _ => none
theorem unT_eq {ds es : List (PyData × PyData)} (h : unT ds = some es) : ds = (.none, .none) :: es := by
  unfold unT at h
  split at h
  · cases h; rfl
  · cases h
theorem toKey_D (k : Key) : toKey (keyD k) = k := by cases k <;> rfl
theorem keyItem_D (k : Key) : keyItem (keyD k) = true := by cases k <;> rfl
theorem tkeyOf_D (k : List Key) : tkeyOf (.tuple (k.map keyD)) = some k := by
  show (if (k.map keyD).all keyItem = true then some ((k.map keyD).map toKey) else none) = some k
  rw [if_pos (by rw [List.all_map]; exact List.all_eq_true.mpr fun x _ => keyItem_D x), List.map_map]
  have : k.map (toKey ∘ keyD) = k.map id := List.map_congr_left fun x _ => toKey_D x
  rw [this, List.map_id]
theorem tkeyed_D (k j : List Key) : tkeyed (.tuple (k.map keyD)) j = decide (k = j) := by
  unfold tkeyed
  rw [tkeyOf_D]
  by_cases h : k = j <;> simp [h]
theorem tget_pos {p : PyData × PyData} {r : List (PyData × PyData)} {k : List Key} (e : tkeyed p.1 k = true) : tget (p :: r) k = some p.2 := by
  unfold tget
  rw [List.find?_cons, e]
  rfl
theorem tget_neg {p : PyData × PyData} {r : List (PyData × PyData)} {k : List Key} (e : tkeyed p.1 k = false) : tget (p :: r) k = tget r k := by
  unfold tget
  rw [List.find?_cons, e]
section
variable {K : PySem.W.Frag} {N : Addr → Prop} {H : Hp}
theorem keyed_D (k j : Key) : keyed (keyD k) j = decide (k = j) := by
  cases k <;> cases j <;> simp [keyD, keyed]
theorem dget_pos {p : PyData × PyData} {r : List (PyData × PyData)} {k : Key} (e : keyed p.1 k = true) : dget (p :: r) k = some p.2 := by
  unfold dget
  rw [List.find?_cons, e]
  rfl
theorem dget_neg {p : PyData × PyData} {r : List (PyData × PyData)} {k : Key} (e : keyed p.1 k = false) : dget (p :: r) k = dget r k := by
  unfold dget
  rw [List.find?_cons, e]
theorem RK.get {k : Key} : ∀ {kvs : List (Key × V)} {ds : List (PyData × PyData)}, RK K N H kvs ds → (valV kvs k = none ∧ dget ds k = none) ∨ ∃ v d, valV kvs k = some v ∧ dget ds k = some d ∧ R K N H v d
  | _, _, .nil => .inl ⟨rfl, rfl⟩
  | _, _, .cons (k := j) (v := v) (d := d) h r => by
    by_cases e : j = k
    · exact .inr ⟨v, d, valV_pos e, dget_pos (by rw [keyed_D]; exact decide_eq_true e), h⟩
    · have e0 : keyed (keyD j) k = false := by rw [keyed_D]; exact decide_eq_false e
      rcases RK.get r with ⟨h1, h2⟩ | ⟨v', d', h1, h2, h3⟩
      · exact .inl ⟨by rw [valV_neg e]; exact h1, by rw [dget_neg e0]; exact h2⟩
      · exact .inr ⟨v', d', by rw [valV_neg e]; exact h1, by rw [dget_neg e0]; exact h2, h3⟩
theorem RK.over {k : Key} {v : V} {d : PyData} (h0 : R K N H v d) : ∀ {kvs : List (Key × V)} {ds : List (PyData × PyData)}, RK K N H kvs ds → RK K N H (kvs.map fun kv => if kv.1 = k then (kv.1, v) else kv) (ds.map fun kv => if keyed kv.1 k = true then (kv.1, d) else kv)
  | _, _, .nil => .nil
  | _, _, .cons (k := j) h r => by
    rw [List.map_cons, List.map_cons]
    dsimp only
    rw [keyed_D]
    by_cases e : j = k
    · rw [if_pos e, if_pos (decide_eq_true e)]; exact .cons h0 (RK.over h0 r)
    · rw [if_neg e, if_neg (by rw [decide_eq_false e]; exact Bool.false_ne_true)]; exact .cons h (RK.over h0 r)
theorem putK_nil (k : Key) (v : V) : putK [] k v = [(k, v)] := rfl
theorem putK_pos {p : Key × V} {r : List (Key × V)} {k : Key} {v : V} (e : p.1 = k) : putK (p :: r) k v = (p.1, v) :: r.map fun kv => if kv.1 = k then (kv.1, v) else kv := by
  unfold putK
  rw [if_pos (by simp [e]), List.map_cons, if_pos e]
theorem putK_neg {p : Key × V} {r : List (Key × V)} {k : Key} {v : V} (e : ¬ p.1 = k) : putK (p :: r) k v = p :: putK r k v := by
  unfold putK
  by_cases h : (r.any fun kv => decide (kv.1 = k)) = true
  · rw [if_pos (by simp only [List.any_cons, h, Bool.or_true]), if_pos h, List.map_cons, if_neg e]
  · rw [if_neg (by simp only [List.any_cons, decide_eq_false e, Bool.false_or]; exact h), if_neg h, List.cons_append]
theorem RK.put {k : Key} {v : V} {d : PyData} (h0 : R K N H v d) : ∀ {kvs : List (Key × V)} {ds : List (PyData × PyData)}, RK K N H kvs ds → RK K N H (putK kvs k v) (dput ds k d)
  | _, _, .nil => .cons h0 .nil
  | _, _, .cons (k := j) h r => by
    unfold dput
    dsimp only
    rw [keyed_D]
    by_cases e : j = k
    · rw [putK_pos e, if_pos (decide_eq_true e)]; exact .cons h0 (RK.over h0 r)
    · rw [putK_neg e, if_neg (by rw [decide_eq_false e]; exact Bool.false_ne_true)]; exact .cons h (RK.put h0 r)
theorem RT.get {k : List Key} : ∀ {kvs : List (List Key × V)} {ds : List (PyData × PyData)}, RT K N H kvs ds → (valV kvs k = none ∧ tget ds k = none) ∨ ∃ v d, valV kvs k = some v ∧ tget ds k = some d ∧ R K N H v d
  | _, _, .nil => .inl ⟨rfl, rfl⟩
  | _, _, .cons (k := j) (v := v) (d := d) h r => by
    by_cases e : j = k
    · exact .inr ⟨v, d, valV_pos e, tget_pos (by rw [tkeyed_D]; exact decide_eq_true e), h⟩
    · have e0 : tkeyed (.tuple (j.map keyD)) k = false := by rw [tkeyed_D]; exact decide_eq_false e
      rcases RT.get r with ⟨h1, h2⟩ | ⟨v', d', h1, h2, h3⟩
      · exact .inl ⟨by rw [valV_neg e]; exact h1, by rw [tget_neg e0]; exact h2⟩
      · exact .inr ⟨v', d', by rw [valV_neg e]; exact h1, by rw [tget_neg e0]; exact h2, h3⟩
theorem RT.over {k : List Key} {v : V} {d : PyData} (h0 : R K N H v d) : ∀ {kvs : List (List Key × V)} {ds : List (PyData × PyData)}, RT K N H kvs ds → RT K N H (kvs.map fun kv => if kv.1 = k then (kv.1, v) else kv) (ds.map fun kv => if tkeyed kv.1 k = true then (kv.1, d) else kv)
  | _, _, .nil => .nil
  | _, _, .cons (k := j) h r => by
    rw [List.map_cons, List.map_cons]
    dsimp only
    rw [tkeyed_D]
    by_cases e : j = k
    · rw [if_pos e, if_pos (decide_eq_true e)]; exact .cons h0 (RT.over h0 r)
    · rw [if_neg e, if_neg (by rw [decide_eq_false e]; exact Bool.false_ne_true)]; exact .cons h (RT.over h0 r)
theorem putT_pos {p : List Key × V} {r : List (List Key × V)} {k : List Key} {v : V} (e : p.1 = k) : putK (p :: r) k v = (p.1, v) :: r.map fun kv => if kv.1 = k then (kv.1, v) else kv := by
  unfold putK
  rw [if_pos (by simp [e]), List.map_cons, if_pos e]
theorem putT_neg {p : List Key × V} {r : List (List Key × V)} {k : List Key} {v : V} (e : ¬ p.1 = k) : putK (p :: r) k v = p :: putK r k v := by
  unfold putK
  by_cases h : (r.any fun kv => decide (kv.1 = k)) = true
  · rw [if_pos (by simp only [List.any_cons, h, Bool.or_true]), if_pos h, List.map_cons, if_neg e]
  · rw [if_neg (by simp only [List.any_cons, decide_eq_false e, Bool.false_or]; exact h), if_neg h, List.cons_append]
theorem RT.put {k : List Key} {v : V} {d : PyData} (h0 : R K N H v d) : ∀ {kvs : List (List Key × V)} {ds : List (PyData × PyData)}, RT K N H kvs ds → RT K N H (putK kvs k v) (tput ds k d)
  | _, _, .nil => .cons h0 .nil
  | _, _, .cons (k := j) h r => by
    unfold tput
    dsimp only
    rw [tkeyed_D]
    by_cases e : j = k
    · rw [putT_pos e, if_pos (decide_eq_true e)]; exact .cons h0 (RT.over h0 r)
    · rw [putT_neg e, if_neg (by rw [decide_eq_false e]; exact Bool.false_ne_true)]; exact .cons h (RT.put h0 r)
theorem RT.length : ∀ {kvs : List (List Key × V)} {ds : List (PyData × PyData)}, RT K N H kvs ds → kvs.length = ds.length
  | _, _, .nil => rfl
  | _, _, .cons _ r => congrArg Nat.succ r.length
theorem ra_keys : ∀ {xs : List V} {ds : List PyData}, RA K N H xs ds → ds.all keyItem = true → xs = (ds.map toKey).map kV
  | [], [], .nil, _ => rfl
  | x :: xs, d :: ds, .cons h r, e => by
    rw [List.all_cons, Bool.and_eq_true] at e
    rw [List.map_cons, List.map_cons, ← ra_keys r e.2]
    congr 1
    cases h <;> first | rfl | cases e.1
/-- a key that is a tuple, as it stands -/
theorem Top.qkey {v : V} {d : PyData} {k : List Key} (h : Top K N H v d) (hk : qkey d = some k) : ∃ b, v = .ref b ∧ H b = some (.tup (k.map kV)) := by
  cases d with
  | tuple ds =>
    have hk : (if keyish ds = true then some (ds.map toKey) else none) = some k := hk
    by_cases hq : keyish ds = true
    · rw [if_pos hq] at hk
      cases hk
      have h2 : R K N H v (.tuple ds) := by
        cases h with
        | val r => exact r
        | own c => exact c.elim
      cases h2 with
      | tup h3 r k =>
        have := ra_keys r (by unfold keyish at hq; exact (Bool.and_eq_true_iff.mp hq).2)
        subst this
        exact ⟨_, rfl, h3⟩
      | tupX _ _ _ k => rw [hq] at k; cases k
    · rw [if_neg hq] at hk; cases hk
  | _ => cases hk
theorem RK.noMark {kvs : List (Key × V)} {d : PyData} {r : List (PyData × PyData)} (h : RK K N H kvs ((.none, d) :: r)) : False := by
  generalize e : (PyData.none, d) :: r = ds at h
  cases h with
  | nil => cases e
  | @cons k _ _ _ _ _ _ =>
    have e1 := (Prod.mk.inj (List.cons.inj e).1).1
    cases k <;> cases e1
theorem Top.dictT {v : V} {ds es : List (PyData × PyData)} (h : Top K N H v (.dict ds)) (hk : unT ds = some es) : ∃ a kvs, v = .ref a ∧ H a = some (.dT kvs) ∧ RT K N H kvs es := by
  have e := unT_eq hk
  subst e
  cases h with
  | val r =>
    cases r with
    | dk n e r => exact r.noMark.elim
    | dt n e r => exact ⟨_, _, rfl, e, r⟩
  | own c =>
    rcases c with ⟨kvs, e, r⟩ | ⟨kvs, e, es, h1, r⟩
    · exact r.noMark.elim
    · cases h1; exact ⟨_, kvs, rfl, e, r⟩
theorem Top.dictK {v : V} {ds : List (PyData × PyData)} (h : Top K N H v (.dict ds)) (hk : isK ds = true) : ∃ a kvs, v = .ref a ∧ Rd H a (.dK kvs) ∧ RK K N H kvs ds := by
  cases h with
  | val r =>
    cases r with
    | exc n e => cases hk
    | dk n e r => exact ⟨_, _, rfl, e, r⟩
    | dt n e r => cases hk
  | own c =>
    rcases c with ⟨kvs, e, r⟩ | ⟨kvs, e, es, h1, r⟩
    · exact ⟨_, kvs, rfl, .inl e, r⟩
    · subst h1; cases hk
theorem Top.keyOf {v : V} {d : PyData} {k : Key} (h : Top K N H v d) (hk : keyOf d = some k) : v = kV k := by
  cases d with
  | int i => cases hk; exact h.int
  | str s => cases hk; exact h.str
  | _ => cases hk
def gDGet : List PyData → Option Out
  | [.dict ds, y] => if isK ds = true then (keyOf y).bind fun k => (dget ds k).map .sh else (unT ds).bind fun es => (qkey y).bind fun k => (tget es k).map .sh
  | _ => none
def rDGetR : R2 := fun x y H Q => ∃ a v, x = .ref a ∧ DGet H a y (some v) ∧ Q v H
theorem i_dget : Impl K (L2r rDGetR) gDGet := by
  intro N H vs ds o Q h g q
  unfold gDGet at g
  split at g
  · rename_i ds y
    obtain ⟨v, w, rfl, h1, h2⟩ := h.two
    split at g
    · rename_i hk
      cases e : DL.keyOf y with
      | none => rw [e] at g; cases g
      | some k =>
        rw [e] at g
        obtain ⟨a, kvs, rfl, hd, r⟩ := h1.dictK hk
        rcases r.get (k := k) with ⟨_, z⟩ | ⟨v', d', z1, z2, z3⟩
        · simp only [Option.bind_some, z] at g; cases g
        · simp only [Option.bind_some, z2] at g
          cases g
          exact ⟨a, v', rfl, .inl ⟨kvs, k, hd, h2.keyOf e, z1.symm⟩, q _ _ (.refl _) (z3.old (.refl _))⟩
    · rw [Option.bind_eq_some_iff] at g
      obtain ⟨es, e1, g⟩ := g
      rw [Option.bind_eq_some_iff] at g
      obtain ⟨k, e2, g⟩ := g
      obtain ⟨a, kvs, rfl, hd, r⟩ := h1.dictT e1
      obtain ⟨b, rfl, hb⟩ := h2.qkey e2
      rcases r.get (k := k) with ⟨_, z⟩ | ⟨v', d', z1, z2, z3⟩
      · rw [z] at g; cases g
      · rw [z2] at g
        cases g
        exact ⟨a, v', rfl, .inr ⟨kvs, k, b, .inl hd, rfl, hb, z1.symm⟩, q _ _ (.refl _) (z3.old (.refl _))⟩
  · cases g
def gInD (neg : Bool) : List PyData → Option Out
  | [y, .dict ds] => if isK ds = true then (keyOf y).map fun k => .sh (.bool (if neg then !(dget ds k).isSome else (dget ds k).isSome)) else (unT ds).bind fun es => (qkey y).map fun k => .sh (.bool (if neg then !(tget es k).isSome else (tget es k).isSome))
  | _ => none
def rInDR (neg : Bool) : R2 := fun y x H Q => ∃ a o, x = .ref a ∧ DGet H a y o ∧ Q (.bl (if neg then !o.isSome else o.isSome)) H
theorem i_inD {neg : Bool} : Impl K (L2r (rInDR neg)) (gInD neg) := by
  intro N H vs ds o Q h g q
  unfold gInD at g
  split at g
  · rename_i y ds
    obtain ⟨v, w, rfl, h1, h2⟩ := h.two
    split at g
    · rename_i hk
      rw [Option.map_eq_some_iff] at g
      obtain ⟨k, e, rfl⟩ := g
      obtain ⟨a, kvs, rfl, hd, r⟩ := h2.dictK hk
      refine ⟨a, valV kvs k, rfl, .inl ⟨kvs, k, hd, h1.keyOf e, rfl⟩, ?_⟩
      have e2 : (valV kvs k).isSome = (dget ds k).isSome := by
        rcases r.get (k := k) with ⟨z1, z2⟩ | ⟨_, _, z1, z2, _⟩ <;> rw [z1, z2] <;> rfl
      rw [e2]
      exact q _ _ (.refl _) (.bl _)
    · rw [Option.bind_eq_some_iff] at g
      obtain ⟨es, e1, g⟩ := g
      rw [Option.map_eq_some_iff] at g
      obtain ⟨k, e2, rfl⟩ := g
      obtain ⟨a, kvs, rfl, hd, r⟩ := h2.dictT e1
      obtain ⟨b, rfl, hb⟩ := h1.qkey e2
      refine ⟨a, valV kvs k, rfl, .inr ⟨kvs, k, b, .inl hd, rfl, hb, rfl⟩, ?_⟩
      have e2 : (valV kvs k).isSome = (tget es k).isSome := by
        rcases r.get (k := k) with ⟨z1, z2⟩ | ⟨_, _, z1, z2, _⟩ <;> rw [z1, z2] <;> rfl
      rw [e2]
      exact q _ _ (.refl _) (.bl _)
  · cases g
/-- d[k] = v -/
def sDict : PyData → PyData → PyData → Option PyData
  | .dict ds, y, d => if isK ds = true ∧ ds.length < 1000000 then (keyOf y).map fun k => .dict (dput ds k d) else (unT ds).bind fun es => if es.length < 1000000 then (qkey y).map fun k => .dict ((.none, .none) :: tput es k d) else none
  | _, _, _ => none
theorem is_dict : ImplSet K rSetD sDict := by
  intro N H p c di d c' vi v Q hp hc ht hr g q
  unfold sDict at g
  split at g
  · rename_i ds y d
    split at g
    · rename_i hk
      rw [Option.map_eq_some_iff] at g
      obtain ⟨k, e, rfl⟩ := g
      have hm := Cn.mutD hc
      rcases hc with ⟨kvs, e1, r⟩ | ⟨kvs, e1, es, h1, r⟩
      · have := million
        exact ⟨p, _, rfl, .inl ⟨kvs, k, e1, ht.keyOf e, by have := r.length; omega, rfl⟩, q _ (.inl ⟨_, upd_same, (r.updT hp hm).put (hr.updT hp hm)⟩)⟩
      · subst h1; cases hk.1
    · rw [Option.bind_eq_some_iff] at g
      obtain ⟨es, e1, g⟩ := g
      split at g
      · rename_i hz
        rw [Option.map_eq_some_iff] at g
        obtain ⟨k, e2, rfl⟩ := g
        have hm := Cn.mutD hc
        have ed := unT_eq e1
        subst ed
        obtain ⟨b, eb, hb⟩ := ht.qkey e2
        rcases hc with ⟨kvs, e3, r⟩ | ⟨kvs, e3, es', h1, r⟩
        · exact r.noMark.elim
        · cases h1
          have := million
          exact ⟨p, _, rfl, .inr ⟨kvs, k, b, e3, eb, hb, by have := r.length; omega, rfl⟩, q _ (.inr ⟨_, upd_same, _, rfl, (r.updT hp hm).put (hr.updT hp hm)⟩)⟩
      · cases g
  · cases g
end
section
variable {X : Cx} {W : XW} {pos : Pos}
theorem two_mem {v w : V} {x y : Sl} {γ : List Ent} : ∀ e ∈ ([v, w].map some).zip [x, y], e ∈ (some w, y) :: (some v, x) :: γ := fun e m => by
  rcases List.mem_cons.mp m with rfl | m
  · exact List.mem_cons_of_mem _ List.mem_cons_self
  · rcases List.mem_cons.mp m with rfl | m
    · exact List.mem_cons_self
    · cases m
theorem d_dget {a b : Expr} {ma mb : M Sl} (hu : X.A.units + 1 < cLine) (ha : PE X a (tV X.K W ma)) (hb : PE X b (tV X.K W mb)) (hs : NoSl b) : PE X (.Subscript a b pos) (tV X.K W (mBin gDGet ma mb)) :=
  PE.imp (pe_dget hu ha hb hs) fun σ H Q h => seq2 (P := fun x y H' => rDGetR x y H' Q) h fun Γ δ γ v w x y H' r p =>
    run_op i_dget (vs := [v, w]) (rs := [x, y]) (γ' := γ) r two_mem rfl (p.imp fun s δ' k v' H'' r' => k v' H'' (drop1 (γ₀ := [(some w, y), (some v, x)]) r'))
end
end DL

set_option Elab.async false
set_option linter.all false
set_option maxRecDepth 100000
set_option maxHeartbeats 1000000
namespace DL
open PySem PySem.Spec PyProof.Rows L2
/-! ### a dict is locked while it is walked -/
section
variable {K : PySem.W.Frag} {N : Addr → Prop} {H H' : Hp}
/-- the dict at p is locked, or unlocked -/
structure Lk2 (H H' : Hp) (p : Addr) (kvs : List (Key × V)) : Prop where
  off : ∀ a, a ≠ p → H' a = H a
  old : Rd H p (.dK kvs)
  new : Rd H' p (.dK kvs)
theorem Lk2.lst {p a : Addr} {kvs : List (Key × V)} {xs : List V} (l : Lk2 H H' p kvs) (h : Rd H a (.lst xs)) : Rd H' a (.lst xs) := by
  have : a ≠ p := fun z => by
    subst z
    rcases l.old with e | ⟨o, e⟩ <;> rcases h with h | ⟨o', h⟩ <;> rw [e] at h <;> cases h
  rcases h with h | ⟨o, h⟩
  · exact .inl (by rw [l.off a this]; exact h)
  · exact .inr ⟨o, by rw [l.off a this]; exact h⟩
theorem Lk2.tup {p a : Addr} {kvs : List (Key × V)} {xs : List V} (l : Lk2 H H' p kvs) (h : Rd H a (.tup xs)) : Rd H' a (.tup xs) := by
  have : a ≠ p := fun z => by
    subst z
    rcases l.old with e | ⟨o, e⟩ <;> rcases h with h | ⟨o', h⟩ <;> rw [e] at h <;> cases h
  rcases h with h | ⟨o, h⟩
  · exact .inl (by rw [l.off a this]; exact h)
  · exact .inr ⟨o, by rw [l.off a this]; exact h⟩
theorem Lk2.ne {p a : Addr} {kvs : List (Key × V)} {u : HO} (l : Lk2 H H' p kvs) (h : H a = some u) (n : u ≠ .dK kvs) (n2 : ∀ o, u ≠ .frz o (.dK kvs)) : a ≠ p := fun z => by
  subst z
  rcases l.old with e | ⟨o, e⟩ <;> rw [e] at h <;> cases h
  · exact n rfl
  · exact n2 _ rfl
theorem Lk2.tupS {p a : Addr} {kvs : List (Key × V)} {xs : List V} (l : Lk2 H H' p kvs) (h : H a = some (.tup xs)) : H' a = some (.tup xs) := by
  rw [l.off a (l.ne h (fun z => nomatch z) fun _ z => nomatch z)]; exact h
theorem Lk2.tupF {p a : Addr} {kvs : List (Key × V)} {o : Obj} {xs : List V} (l : Lk2 H H' p kvs) (h : H a = some (.frz o (.tup xs))) : H' a = some (.frz o (.tup xs)) := by
  rw [l.off a (l.ne h (fun z => nomatch z) fun _ z => nomatch z)]; exact h
theorem Lk2.dk {p a : Addr} {kvs ks : List (Key × V)} (l : Lk2 H H' p kvs) (h : Rd H a (.dK ks)) : Rd H' a (.dK ks) := by
  by_cases z : a = p
  · subst z
    have : ks = kvs := by
      rcases l.old with e | ⟨o, e⟩ <;> rcases h with h | ⟨o', h⟩ <;> rw [e] at h <;> cases h <;> rfl
    rw [this]
    exact l.new
  · rcases h with h | ⟨o, h⟩
    · exact .inl (by rw [l.off a z]; exact h)
    · exact .inr ⟨o, by rw [l.off a z]; exact h⟩
theorem Lk2.dt {p a : Addr} {kvs : List (Key × V)} {ks : List (List Key × V)} (l : Lk2 H H' p kvs) (h : H a = some (.dT ks)) : H' a = some (.dT ks) := by
  have : a ≠ p := fun z => by
    subst z
    rcases l.old with e | ⟨o, e⟩ <;> rw [e] at h <;> cases h
  rw [l.off a this]; exact h
mutual
theorem R.lk {p : Addr} {kvs : List (Key × V)} (l : Lk2 H H' p kvs) : ∀ {v : V} {d : PyData}, R K N H v d → R K N H' v d
  | _, _, .non => .non
  | _, _, .bl b => .bl b
  | _, _, .int i => .int i
  | _, _, .str x => .str x
  | _, _, .lst n h r => .lst n (l.lst h) (RA.lk l r)
  | _, _, .lstK h r => .lstK h (RA.lk l r)
  | _, _, .tup h r k => .tup (l.tupS h) (RA.lk l r) k
  | _, _, .tupX h ho r k => .tupX (l.tupF h) ho (RA.lk l r) k
  | _, _, .exc n h => .exc n (by rw [l.off _ (l.ne h (fun z => nomatch z) fun _ z => nomatch z)]; exact h)
  | _, _, .dk n h r => .dk n (l.dk h) (RK.lk l r)
  | _, _, .dt n h r => .dt n (l.dt h) (RT.lk l r)
theorem RA.lk {p : Addr} {kvs : List (Key × V)} (l : Lk2 H H' p kvs) : ∀ {v : List V} {d : List PyData}, RA K N H v d → RA K N H' v d
  | _, _, .nil => .nil
  | _, _, .cons h r => .cons (R.lk l h) (RA.lk l r)
theorem RK.lk {p : Addr} {kvs : List (Key × V)} (l : Lk2 H H' p kvs) : ∀ {v : List (Key × V)} {d : List (PyData × PyData)}, RK K N H v d → RK K N H' v d
  | _, _, .nil => .nil
  | _, _, .cons h r => .cons (R.lk l h) (RK.lk l r)
theorem RT.lk {p : Addr} {kvs : List (Key × V)} (l : Lk2 H H' p kvs) : ∀ {v : List (List Key × V)} {d : List (PyData × PyData)}, RT K N H v d → RT K N H' v d
  | _, _, .nil => .nil
  | _, _, .cons h r => .cons (R.lk l h) (RT.lk l r)
end
theorem Cn.lk {p q : Addr} {kvs : List (Key × V)} {d : PyData} (l : Lk2 H H' p kvs) (hq : q ≠ p) (h : Cn K N H q d) : Cn K N H' q d := by
  cases d with
  | list ds => obtain ⟨xs, e, r⟩ := h; exact ⟨xs, by rw [l.off q hq]; exact e, r.lk l⟩
  | dict ds =>
    rcases h with ⟨k, e, r⟩ | ⟨k, e, es, h1, r⟩
    · exact .inl ⟨k, by rw [l.off q hq]; exact e, r.lk l⟩
    · exact .inr ⟨k, by rw [l.off q hq]; exact e, es, h1, r.lk l⟩
  | _ => exact h.elim
/-- the ground while the dict at p is locked -/
def Gm.at (Γ : Gm) (p : Addr) (u : Option HO) : Gm := { Γ with H0 := fun a => if a = p then (if Γ.H0 p = none then none else u) else Γ.H0 a }
theorem Gm.at_same {Γ : Gm} {p : Addr} {u : Option HO} : (Γ.at p u).H0 p = if Γ.H0 p = none then none else u := by
  show (if p = p then (if Γ.H0 p = none then none else u) else Γ.H0 p) = _
  rw [if_pos rfl]
theorem Gm.at_ne {Γ : Gm} {p a : Addr} {u : Option HO} (h : a ≠ p) : (Γ.at p u).H0 a = Γ.H0 a := by
  show (if a = p then (if Γ.H0 p = none then none else u) else Γ.H0 a) = _
  rw [if_neg h]
def isFr : Sl → Bool
  | .fr _ => true
  | .fz _ _ => true
  | _ => false
variable {Γ : Gm} {S γ : List Ent}
theorem EntOk.lk {p : Addr} {kvs : List (Key × V)} {u : Option HO} {e : Ent} (l : Lk2 H H' p kvs) (np : N p) (ho : e.2.own = true → e.1 ≠ some (.ref p)) (hf : isFr e.2 = true → e.1 ≠ some (.ref p)) (hb : ∀ a, a ≠ p → Γ.H0 a = none → (Γ.at p u).H0 a = none) (h : EntOk K Γ S N H e) : EntOk K (Γ.at p u) S N H' e := by
  obtain ⟨o, sl⟩ := e
  cases sl with
  | no => exact True.intro
  | sh d => obtain ⟨v, e1, r⟩ := h; exact ⟨v, e1, r.lk l⟩
  | ow d =>
    obtain ⟨q, e1, e2, e3, c⟩ := h
    have hq : q ≠ p := fun z => ho rfl (z ▸ e1)
    exact ⟨q, e1, hb q hq e2, e3, c.lk l hq⟩
  | io k d =>
    obtain ⟨q, e1, e2, c⟩ := h
    have hq : q ≠ p := fun z => ho rfl (z ▸ e1)
    exact ⟨q, e1, e2, c.lk l hq⟩
  | al i => exact h
  | raw v => exact h
  | fz o' ks =>
    obtain ⟨q, e1, n, e2⟩ := h
    have hq : q ≠ p := fun z => hf rfl (z ▸ e1)
    exact ⟨q, e1, n, by rw [l.off q hq]; exact e2⟩
  | fr ds =>
    obtain ⟨q, e1, n, o', ks, e2, r⟩ := h
    have hq : q ≠ p := fun z => hf rfl (z ▸ e1)
    exact ⟨q, e1, n, o', ks, by rw [l.off q hq]; exact e2, r.lk l⟩
  | clo c ds => exact ⟨h.1, h.2.1.lk l, fun q m => by rw [l.off q.1 (fun z => by have := h.2.2 q m; rw [z] at this; rcases l.old with e | ⟨o, e⟩ <;> rw [e] at this <;> cases this)]; exact h.2.2 q m⟩
theorem own_off {p : Addr} (n : Nn Γ (S ++ γ) p) : ∀ e ∈ S ++ γ, e.2.own = true → e.1 ≠ some (.ref p) := fun e m o z => n.2 ⟨e, m, o, z⟩
theorem Rel.lock {p : Addr} {kvs : List (Key × V)} {o : Obj} (r : Rel K Γ S γ H) (n : Nn Γ (S ++ γ) p) (hp : H p = some (.dK kvs)) : Rel K (Γ.at p (some (.frz o (.dK kvs)))) S γ (upd H p (.frz o (.dK kvs))) := by
  have l : Lk2 H (upd H p (.frz o (.dK kvs))) p kvs := ⟨fun a h => upd_ne h, .inl hp, .inr ⟨o, upd_same⟩⟩
  have hb : ∀ a, a ≠ p → Γ.H0 a = none → (Γ.at p (some (.frz o (.dK kvs)))).H0 a = none := fun a h e => by rw [Gm.at_ne h]; exact e
  refine ⟨fun q hq => ?_, fun a u e hi t => ?_, fun a h => ?_, r.nb, r.tb.off (fun ps z => by rw [hp] at z; cases z) (fun φ z => by rw [hp] at z; cases z) (fun a u n e => by rw [upd_ne n]; exact e), fun a m => ?_, fun e m => ?_, r.dist⟩
  · by_cases z : q = p
    · rw [z, upd_same] at hq; cases hq
    · rw [upd_ne z] at hq; exact r.fresh q hq
  rotate_left
  · by_cases z : a = p
    · rw [z, upd_same] at h; cases h
    · rw [upd_ne z] at h; rw [Gm.at_ne z]; exact r.kfr a h
  rotate_right
  · by_cases z : a = p
    · subst z
      rw [upd_same]
      have e' : (if Γ.H0 a = none then none else some (HO.frz o (.dK kvs))) = some u := by rw [← Gm.at_same]; exact e
      by_cases y : Γ.H0 a = none
      · rw [if_pos y] at e'; cases e'
      · rw [if_neg y] at e'; exact e'
    · rw [upd_ne z]
      have e' : Γ.H0 a = some u := by rw [← Gm.at_ne (u := some (.frz o (.dK kvs))) z]; exact e
      exact r.keep a u e' hi t
  · by_cases z : a = p
    · rw [z, upd_same]; exact fun h => nomatch h
    · rw [upd_ne z]; exact r.kio a m
  · refine (r.each e m).lk l n (own_off n e m) (fun f z => ?_) hb
    obtain ⟨ov, sl⟩ := e
    have q := r.each _ m
    cases sl with
    | fz o' ks => obtain ⟨q1, e1, _, e2⟩ := q; rw [show ov = some (.ref p) from z] at e1; cases e1; rw [hp] at e2; cases e2
    | fr ds => obtain ⟨q1, e1, _, o', ks, e2, _⟩ := q; rw [show ov = some (.ref p) from z] at e1; cases e1; rw [hp] at e2; cases e2
    | _ => cases f
theorem EntOk.ground {Γ' : Gm} {e : Ent} (hb : Γ'.B = Γ.B) (hi : Γ'.io = Γ.io) (h0 : ∀ a, e.2.own = true → e.1 = some (.ref a) → Γ.H0 a = none → Γ'.H0 a = none) (h : EntOk K Γ S N H e) : EntOk K Γ' S N H e := by
  obtain ⟨o, sl⟩ := e
  cases sl with
  | ow d => obtain ⟨p, e1, e2, e3, c⟩ := h; exact ⟨p, e1, h0 p rfl e1 e2, by rw [hb]; exact e3, c⟩
  | io k d => obtain ⟨p, e1, e2, c⟩ := h; exact ⟨p, e1, by rw [hi]; exact e2, c⟩
  | _ => exact h
def unfr : Sl → Sl
  | .fr ds => .sh (.dict ds)
  | s => s
theorem unfr_own (s : Sl) : (unfr s).own = s.own := by cases s <;> rfl
/-- .. and back -/
theorem Rel.unlock {p : Addr} {kvs : List (Key × V)} {o : Obj} (r : Rel K (Γ.at p (some (.frz o (.dK kvs)))) (S.map fun e => (e.1, unfr e.2)) γ H) (n : Nn Γ (S ++ γ) p) (hp : H p = some (.frz o (.dK kvs))) (h0 : ∀ u, Γ.H0 p = some u → p ∉ Γ.io → u = .dK kvs)
    (hg : ∀ e ∈ γ, isFr e.2 = true → e.1 ≠ some (.ref p)) (hs : ∀ e ∈ S, isFr (unfr e.2) = false) : Rel K Γ (S.map fun e => (e.1, unfr e.2)) γ (upd H p (.dK kvs)) := by
  have l : Lk2 H (upd H p (.dK kvs)) p kvs := ⟨fun a h => upd_ne h, .inr ⟨o, hp⟩, .inl upd_same⟩
  have ownEq : ∀ a, OwnA (S.map (fun e => (e.1, unfr e.2)) ++ γ) a ↔ OwnA (S ++ γ) a := fun a => by
    constructor
    · rintro ⟨e, m, o, q⟩
      rcases List.mem_append.mp m with m | m
      · obtain ⟨e', m', rfl⟩ := List.mem_map.mp m
        exact ⟨e', List.mem_append_left _ m', by rw [← unfr_own]; exact o, q⟩
      · exact ⟨e, List.mem_append_right _ m, o, q⟩
    · rintro ⟨e, m, o, q⟩
      rcases List.mem_append.mp m with m | m
      · exact ⟨_, List.mem_append_left _ (List.mem_map.mpr ⟨e, m, rfl⟩), by dsimp only; rw [unfr_own]; exact o, q⟩
      · exact ⟨e, List.mem_append_right _ m, o, q⟩
  have n' : Nn Γ (S.map (fun e => (e.1, unfr e.2)) ++ γ) p := ⟨n.1, fun z => n.2 ((ownEq p).mp z)⟩
  refine ⟨fun q hq => ?_, fun a u e hi t => ?_, fun a h => ?_, r.nb, r.tb.off (fun ps z => by rw [hp] at z; cases z) (fun φ z => by rw [hp] at z; cases z) (fun a u n e => by rw [upd_ne n]; exact e), fun a m => ?_, fun e m => ?_, r.dist⟩
  · by_cases z : q = p
    · rw [z, upd_same] at hq; cases hq
    · rw [upd_ne z] at hq; exact r.fresh q hq
  rotate_left
  · by_cases z : a = p
    · rw [z, upd_same] at h; cases h
    · rw [upd_ne z] at h; have := r.kfr a h; rw [Gm.at_ne z] at this; exact this
  rotate_right
  · by_cases z : a = p
    · subst z
      rw [upd_same, h0 u e hi]
    · rw [upd_ne z]
      exact r.keep a u (by rw [Gm.at_ne z]; exact e) hi t
  · by_cases z : a = p
    · rw [z, upd_same]; exact fun h => nomatch h
    · rw [upd_ne z]; exact r.kio a m
  · have q0 := EntOk.ground (Γ := Γ.at p (some (.frz o (.dK kvs)))) (Γ' := Γ) rfl rfl (h := r.each e m) fun a o e1 e2 => by
      have z : a ≠ p := fun z => own_off n' e m o (z ▸ e1)
      rw [Gm.at_ne z] at e2
      exact e2
    have q1 : EntOk K Γ (S.map fun e => (e.1, unfr e.2)) (Nn Γ (S.map (fun e => (e.1, unfr e.2)) ++ γ)) H e := q0
    have q2 := q1.lk (u := Γ.H0 p) l n' (own_off n' e m) (fun f z => by
      rcases List.mem_append.mp m with m | m
      · obtain ⟨e', m', rfl⟩ := List.mem_map.mp m
        have := hs e' m'
        rw [show isFr (unfr e'.2) = true from f] at this
        cases this
      · exact hg e m f z) (fun a z e => by rw [Gm.at_ne z]; exact e)
    exact EntOk.ground (Γ := Γ.at p (Γ.H0 p)) (Γ' := Γ) rfl rfl (h := q2) fun a o e1 e2 => by
      have z : a ≠ p := fun z => own_off n' e m o (z ▸ e1)
      rw [Gm.at_ne z] at e2
      exact e2
theorem Rel.unfr (r : Rel K Γ S γ H) : Rel K Γ (S.map fun e => (e.1, unfr e.2)) γ H := by
  have ownEq : ∀ a, OwnA (S.map (fun e => (e.1, DL.unfr e.2)) ++ γ) a → OwnA (S ++ γ) a := fun a => by
    rintro ⟨e, m, o, q⟩
    rcases List.mem_append.mp m with m | m
    · obtain ⟨e', m', rfl⟩ := List.mem_map.mp m
      exact ⟨e', List.mem_append_left _ m', by rw [← unfr_own]; exact o, q⟩
    · exact ⟨e, List.mem_append_right _ m, o, q⟩
  have go : ∀ e ∈ S ++ γ, EntOk K Γ (S.map fun e => (e.1, DL.unfr e.2)) (Nn Γ (S.map (fun e => (e.1, DL.unfr e.2)) ++ γ)) H e := fun e m =>
    (r.each e m).mono (fun a n _ => ⟨n.1, fun z => n.2 (ownEq a z)⟩) (fun _ _ h _ => h) (fun _ _ _ h => h) (fun _ _ _ _ h => h) fun i v x _ h => ⟨DL.unfr x, by rw [List.getElem?_map, h]; rfl⟩
  refine ⟨r.fresh, r.keep, r.kfr, r.nb, r.tb, r.kio, fun e m => ?_, ?_⟩
  · rcases List.mem_append.mp m with m | m
    · obtain ⟨e', m', rfl⟩ := List.mem_map.mp m
      have q := go e' (List.mem_append_left _ m')
      obtain ⟨ov, sl⟩ := e'
      cases sl with
      | fr ds => obtain ⟨p, e1, n, o, kvs, e2, r⟩ := q; exact ⟨_, e1, .dk n (.inr ⟨o, e2⟩) r⟩
      | _ => exact q
    · exact go e (List.mem_append_right _ m)
  · have h := r.dist
    rw [List.pairwise_append] at h ⊢
    refine ⟨List.pairwise_map.mpr (h.1.imp fun {a b} q o1 o2 => q (by rw [← unfr_own]; exact o1) (by rw [← unfr_own]; exact o2)), h.2.1, fun x hx y hy => ?_⟩
    obtain ⟨x', m', rfl⟩ := List.mem_map.mp hx
    exact fun o1 o2 => h.2.2 x' m' y hy (by rw [← unfr_own]; exact o1) o2
end
end DL

set_option Elab.async false
set_option linter.all false
set_option maxRecDepth 100000
set_option maxHeartbeats 1000000
namespace DL
open PySem PySem.Spec PyProof.Rows L2
/-- the dict in slot i is locked: how the slots stand then -/
def frD (δ : List Sl) (i : Nat) : Option (List Sl) := match δ[i]? with
  | some (.ow (.dict ds)) => if isK ds = true then some (δ.set i (.fr ds)) else none
  | some (.sh (.dict ds)) => if isK ds = true then some (δ.set i (.fr ds)) else none
  | some (.fr _) => some δ
  | _ => none
section
variable {K : PySem.W.Frag} {Γ : Gm} {σ : L2.St} {δ δ1 δ2 : List Sl} {γ : List Ent} {H : Hp} {i : Nat}
theorem RS.frSlot {p : Addr} {kvs : List (Key × V)} {ds : List (PyData × PyData)} {o : Obj} (r : RS K Γ σ δ γ H) (h : δ[i]? = some (.sh (.dict ds))) (hi : σ[i]? = some (some (.ref p))) (hp : H p = some (.frz o (.dK kvs))) (hk : isK ds = true) :
    RS K Γ σ (δ.set i (.fr ds)) ((some (.ref p), .fz o kvs) :: γ) H := by
  obtain ⟨v, h1, r1⟩ := r.take h
  rw [hi] at h1
  cases h1
  have q := r1.get (List.mem_append_right _ List.mem_cons_self)
  have e : EntOk K Γ (σ.zip (δ.set i .no)) (Nn Γ (σ.zip (δ.set i .no) ++ (some (V.ref p), Sl.sh (.dict ds)) :: γ)) H (some (V.ref p), .fr ds) ∧ Nn Γ (σ.zip (δ.set i .no) ++ (some (V.ref p), Sl.sh (.dict ds)) :: γ) p := by
    cases q with
    | dk n e r =>
      rcases e with e | ⟨o', e⟩
      · rw [hp] at e; cases e
      · have e2 := e
        rw [hp] at e2
        cases e2
        exact ⟨⟨p, rfl, n, o, kvs, hp, r⟩, n⟩
    | dt n e r => cases hk
    | exc n e => cases hk
  have r2 : RS K Γ σ (δ.set i .no) ((some (V.ref p), .fr ds) :: (some (V.ref p), Sl.sh (.dict ds)) :: γ) H := ⟨r1.len, r1.rel.push rfl e.1⟩
  have hn := r2.rel.each _ (List.mem_append_right _ List.mem_cons_self)
  obtain ⟨p', e1, n2, _⟩ := hn
  cases e1
  have r3 : RS K Γ σ (δ.set i .no) ((some (V.ref p), .fz o kvs) :: (some (V.ref p), .fr ds) :: (some (V.ref p), Sl.sh (.dict ds)) :: γ) H := ⟨r2.len, r2.rel.push rfl ⟨p, rfl, n2, hp⟩⟩
  have r4 : RS K Γ σ (δ.set i .no) ((some (V.ref p), .fr ds) :: (some (V.ref p), .fz o kvs) :: γ) H := (r3.perm (List.Perm.swap _ _ _)).sublist (((List.sublist_cons_self _ _).cons_cons _).cons_cons _)
  have hl : i < δ.length := (List.getElem?_eq_some_iff.mp h).1
  have r5 := r4.put hi (s' := .no) (by rw [List.getElem?_set_self hl])
  rwa [List.set_set] at r5
/-- a shared dict in a slot is locked -/
theorem RS.lockSh {ds : List (PyData × PyData)} (r : RS K Γ σ δ γ H) (h : δ[i]? = some (.sh (.dict ds))) (hk : isK ds = true) : ∃ p kvs, σ[i]? = some (some (.ref p)) ∧
    ((∃ o, H p = some (.frz o (.dK kvs)) ∧ RS K Γ σ (δ.set i (.fr ds)) γ H) ∨
      (H p = some (.dK kvs) ∧ (∀ e ∈ γ, isFr e.2 = true → e.1 ≠ some (.ref p)) ∧ (∀ u, Γ.H0 p = some u → p ∉ Γ.io → u = .dK kvs) ∧
        ∀ o, RS K (Γ.at p (some (.frz o (.dK kvs)))) σ (δ.set i (.fr ds)) ((some (.ref p), .fz o kvs) :: γ) (upd H p (.frz o (.dK kvs))))) := by
  obtain ⟨v, h1, r1⟩ := sh_at r h
  have q := r.get (mem_zip h1 h |> List.mem_append_left _)
  cases q with
  | dt n e rr => cases hk
  | exc n e => cases hk
  | @dk p kvs _ n e rr =>
    refine ⟨p, kvs, h1, ?_⟩
    rcases e with e | ⟨o, e⟩
    · refine .inr ⟨e, fun x m f z => ?_, fun u hu hio => ?_, fun o => ?_⟩
      · obtain ⟨ov, sl⟩ := x
        have q := r.rel.each _ (List.mem_append_right _ m)
        cases sl with
        | fz o' ks => obtain ⟨q1, e1, _, e2⟩ := q; rw [show ov = some (.ref p) from z] at e1; cases e1; rw [e] at e2; cases e2
        | fr ds => obtain ⟨q1, e1, _, o', ks, e2, _⟩ := q; rw [show ov = some (.ref p) from z] at e1; cases e1; rw [e] at e2; cases e2
        | _ => cases f
      · have := r.rel.keep p u hu hio (r.rel.nb _ n.1)
        rw [e] at this
        cases this
        rfl
      · exact RS.frSlot (Γ := Γ.at p (some (.frz o (.dK kvs)))) ⟨r.len, r.rel.lock n e⟩ h h1 upd_same hk
    · exact .inl ⟨o, e, (r.frSlot h h1 e hk).pop⟩
theorem set_same {i : Nat} {s : Sl} (h : δ[i]? = some s) : δ.set i s = δ := by
  obtain ⟨h1, h2⟩ := List.getElem?_eq_some_iff.mp h
  rw [← h2, List.set_getElem_self]
theorem RS.lock (r : RS K Γ σ δ γ H) (h : frD δ i = some δ1) : RS K Γ σ δ1 γ H ∨ ∃ p kvs, H p = some (.dK kvs) ∧ (∀ e ∈ γ, isFr e.2 = true → e.1 ≠ some (.ref p)) ∧ (∀ u, Γ.H0 p = some u → p ∉ Γ.io → u = .dK kvs) ∧
    ∀ o, RS K (Γ.at p (some (.frz o (.dK kvs)))) σ δ1 ((some (.ref p), .fz o kvs) :: γ) (upd H p (.frz o (.dK kvs))) := by
  unfold frD at h
  cases hs : δ[i]? with
  | none => rw [hs] at h; cases h
  | some s =>
    rw [hs] at h
    have fin : ∀ (δ0 : List Sl) (ds : List (PyData × PyData)), RS K Γ σ δ0 γ H → δ0[i]? = some (.sh (.dict ds)) → isK ds = true → δ0.set i (.fr ds) = δ1 → RS K Γ σ δ1 γ H ∨ ∃ p kvs, H p = some (.dK kvs) ∧ (∀ e ∈ γ, isFr e.2 = true → e.1 ≠ some (.ref p)) ∧ (∀ u, Γ.H0 p = some u → p ∉ Γ.io → u = .dK kvs) ∧
        ∀ o, RS K (Γ.at p (some (.frz o (.dK kvs)))) σ δ1 ((some (.ref p), .fz o kvs) :: γ) (upd H p (.frz o (.dK kvs))) := fun δ0 ds r0 h0 hk e => by
      subst e
      obtain ⟨p, kvs, _, ⟨o, _, q⟩ | q⟩ := r0.lockSh h0 hk
      · exact .inl q
      · exact .inr ⟨p, kvs, q⟩
    cases s with
    | ow d =>
      cases d with
      | dict ds =>
        by_cases hk : isK ds = true
        · simp only [if_pos hk] at h
          cases h
          obtain ⟨v, h1, r1⟩ := ow_at r hs
          have hl : i < δ.length := (List.getElem?_eq_some_iff.mp hs).1
          exact fin _ ds r1.pop (by rw [List.getElem?_set_self hl]) hk (by rw [List.set_set])
        · simp only [if_neg hk] at h; cases h
      | _ => cases h
    | sh d =>
      cases d with
      | dict ds =>
        by_cases hk : isK ds = true
        · simp only [if_pos hk] at h
          cases h
          exact fin _ ds r hs hk rfl
        · simp only [if_neg hk] at h; cases h
      | _ => cases h
    | fr ds => cases h; exact .inl r
    | _ => cases h
theorem zip_unfr : σ.zip (δ.map unfr) = (σ.zip δ).map fun e => (e.1, unfr e.2) := by
  rw [List.zip_map_right]
  rfl
theorem RS.unfrs (r : RS K Γ σ δ γ H) : RS K Γ σ (δ.map unfr) γ H := ⟨⟨by rw [List.length_map]; exact r.len.eq, fun s m => by
    obtain ⟨s', m', rfl⟩ := List.mem_map.mp m
    have := r.len.na s' m'
    cases s' <;> first | rfl | exact this⟩, by rw [zip_unfr]; exact r.rel.unfr⟩
/-- no slot is of the exact kind -/
def noFz (δ : List Sl) : Bool := δ.all fun s => !isFr (unfr s)
theorem RS.unlock {p : Addr} {kvs : List (Key × V)} {o : Obj} (r : RS K (Γ.at p (some (.frz o (.dK kvs)))) σ δ ((some (.ref p), .fz o kvs) :: γ) H) (hf : noFz δ = true) (hg : ∀ e ∈ γ, isFr e.2 = true → e.1 ≠ some (.ref p)) (h0 : ∀ u, Γ.H0 p = some u → p ∉ Γ.io → u = .dK kvs) :
    H p = some (.frz o (.dK kvs)) ∧ RS K Γ σ (δ.map unfr) γ (upd H p (.dK kvs)) := by
  obtain ⟨p', e1, n, e2⟩ := r.rel.each _ (List.mem_append_right _ List.mem_cons_self)
  cases e1
  refine ⟨e2, r.unfrs.len, ?_⟩
  rw [zip_unfr]
  refine (r.pop.rel.unfr).unlock ⟨n.1, fun z => n.2 ?_⟩ e2 h0 hg fun e m => ?_
  · obtain ⟨e, m, q⟩ := z
    exact ⟨e, (List.mem_append.mp m).elim (List.mem_append_left _) fun m => List.mem_append_right _ (List.mem_cons_of_mem _ m), q⟩
  · have := List.all_eq_true.mp hf e.2 (List.of_mem_zip (a := e.1) (b := e.2) m).2
    simpa using this
end
def lockM (i : Nat) (m : M Sl) : M Sl := fun δ => match frD δ i with
  | some δ1 => match m δ1 with
    | .ok r δ2 => if noFz δ2 = true ∧ isFr r = false then .ok r (δ2.map unfr) else .no
    | _ => .no
  | none => .no
def lockS (i : Nat) (m : SM) : SM := fun δ => match frD δ i with
  | some δ1 => match m δ1 with
    | .nx δ2 => if noFz δ2 = true then .nx (δ2.map unfr) else .no
    | .rt r δ2 => if noFz δ2 = true ∧ isFr r = false then .rt r (δ2.map unfr) else .no
    | .bk δ2 => if noFz δ2 = true then .bk (δ2.map unfr) else .no
    | .ct δ2 => if noFz δ2 = true then .ct (δ2.map unfr) else .no
    | _ => .no
  | none => .no
def keysM (i : Nat) : M (List PyData) := fun δ => match δ[i]? with
  | some (.fr ds) => .ok (ds.map (·.1)) δ
  | _ => .no
section
variable {X : Cx} {W : XW} {pos : Pos}
theorem PE.or {e : Expr} {t t' : TE} (h : PE X e t) (h' : PE X e t') : PE X e (fun σ H Q => t σ H Q ∨ t' σ H Q) := ⟨fun pins s σ H Q I q => q.elim (h.run pins s σ H Q I) (h'.run pins s σ H Q I)⟩
theorem PS.or {e : Stmt} {t t' : TS} (h : PS X e t) (h' : PS X e t') : PS X e (fun D σ H => t D σ H ∨ t' D σ H) := ⟨fun pins s σ H D I q => q.elim (h.run pins s σ H D I) (h'.run pins s σ H D I)⟩
theorem d_lock {e : Expr} {m : M Sl} (i : Nat) (h : PE X e (tV X.K W m)) : PE X e (tV X.K W (lockM i m)) :=
  PE.imp (PE.or h (pe_lock h)) fun σ H Q ⟨Γ, δ, γ, r, p⟩ => by
    unfold lockM at p
    cases h1 : frD δ i with
    | none => rw [h1] at p; exact p.elim
    | some δ1 =>
      simp only [h1] at p
      cases h2 : m δ1 with
      | no => simp only [h2] at p; exact p.elim
      | er ex δ2 => simp only [h2] at p; exact p.elim
      | ok x δ2 =>
        simp only [h2] at p
        by_cases hf : noFz δ2 = true ∧ isFr x = false
        · rw [if_pos hf] at p
          have p : ∀ v H', RS X.K Γ σ (δ2.map unfr) ((some v, x) :: γ) H' → Q v H' := p
          rcases r.lock h1 with q | ⟨a, kvs, ha, hg, h0, q⟩
          · exact .inl ⟨Γ, δ1, γ, q, by rw [h2]; exact fun v H' r' => p v H' r'.unfrs⟩
          · refine .inr ⟨a, _, ha, True.intro, fun o => ⟨_, δ1, _, q o, ?_⟩⟩
            rw [h2]
            intro v H' r'
            have hg2 : ∀ e ∈ (some v, x) :: γ, isFr e.2 = true → e.1 ≠ some (.ref a) := fun e m f => by
              rcases List.mem_cons.mp m with rfl | m
              · rw [show isFr x = true from f] at hf; cases hf.2
              · exact hg e m f
            obtain ⟨u1, u2⟩ := RS.unlock (r'.perm (List.Perm.swap _ _ _)) hf.1 hg2 h0
            exact ⟨u1, p v _ u2⟩
        · rw [if_neg hf] at p; exact p.elim
theorem ds_lock {st : Stmt} {m : SM} (i : Nat) (h : PS X st (tS X.K W m)) : PS X st (tS X.K W (lockS i m)) :=
  PS.imp (PS.or h (ps_lock h)) fun D σ H ⟨Γ, δ, γ, r, na, p⟩ => by
    unfold lockS at p
    cases h1 : frD δ i with
    | none => rw [h1] at p; exact p.elim
    | some δ1 =>
      simp only [h1] at p
      have un : ∀ (δ2 : List Sl), noFz δ2 = true → ∀ (a : Addr) (kvs : List (Key × V)) (o : Obj), (∀ e ∈ γ, isFr e.2 = true → e.1 ≠ some (.ref a)) → (∀ u, Γ.H0 a = some u → a ∉ Γ.io → u = .dK kvs) → ∀ σ' H', RS X.K (Γ.at a (some (.frz o (.dK kvs)))) σ' δ2 ((some (.ref a), .fz o kvs) :: γ) H' →
          H' a = some (.frz o (.dK kvs)) ∧ RS X.K Γ σ' (δ2.map unfr) γ (upd H' a (.dK kvs)) := fun δ2 hf a kvs o hg h0 σ' H' r' => RS.unlock r' hf hg h0
      have naf : ∀ (a : Addr) (o : Obj) (kvs : List (Key × V)), NoAl ((some (V.ref a), Sl.fz o kvs) :: γ) := fun a o kvs e m => by
        rcases List.mem_cons.mp m with rfl | m
        · rfl
        · exact na e m
      rcases r.lock h1 with q | ⟨a, kvs, ha, hg, h0, q⟩
      · refine .inl ⟨Γ, δ1, γ, q, na, ?_⟩
        cases h2 : m δ1 with
        | nx δ2 =>
          simp only [h2] at p
          by_cases hf : noFz δ2 = true
          · rw [if_pos hf] at p; exact fun σ' H' r' => p σ' H' r'.unfrs
          · rw [if_neg hf] at p; exact p.elim
        | bk δ2 =>
          simp only [h2] at p
          by_cases hf : noFz δ2 = true
          · rw [if_pos hf] at p; exact fun σ' H' r' => p σ' H' r'.unfrs
          · rw [if_neg hf] at p; exact p.elim
        | ct δ2 =>
          simp only [h2] at p
          by_cases hf : noFz δ2 = true
          · rw [if_pos hf] at p; exact fun σ' H' r' => p σ' H' r'.unfrs
          · rw [if_neg hf] at p; exact p.elim
        | rt x δ2 =>
          simp only [h2] at p
          by_cases hf : noFz δ2 = true ∧ isFr x = false
          · rw [if_pos hf] at p; exact fun σ' v H' r' => p σ' v H' r'.unfrs
          · rw [if_neg hf] at p; exact p.elim
        | er ex δ2 => simp only [h2] at p; exact p.elim
        | no => simp only [h2] at p; exact p.elim
      · refine .inr ⟨a, _, ha, True.intro, fun o => ⟨_, δ1, _, q o, naf a o kvs, ?_⟩⟩
        cases h2 : m δ1 with
        | nx δ2 =>
          simp only [h2] at p
          by_cases hf : noFz δ2 = true
          · rw [if_pos hf] at p; exact fun σ' H' r' => let z := un δ2 hf a kvs o hg h0 σ' H' r'; ⟨z.1, p _ _ z.2⟩
          · rw [if_neg hf] at p; exact p.elim
        | bk δ2 =>
          simp only [h2] at p
          by_cases hf : noFz δ2 = true
          · rw [if_pos hf] at p; exact fun σ' H' r' => let z := un δ2 hf a kvs o hg h0 σ' H' r'; ⟨z.1, p _ _ z.2⟩
          · rw [if_neg hf] at p; exact p.elim
        | ct δ2 =>
          simp only [h2] at p
          by_cases hf : noFz δ2 = true
          · rw [if_pos hf] at p; exact fun σ' H' r' => let z := un δ2 hf a kvs o hg h0 σ' H' r'; ⟨z.1, p _ _ z.2⟩
          · rw [if_neg hf] at p; exact p.elim
        | rt x δ2 =>
          simp only [h2] at p
          by_cases hf : noFz δ2 = true ∧ isFr x = false
          · rw [if_pos hf] at p
            intro σ' v H' r'
            have hg2 : ∀ e ∈ (some v, x) :: γ, isFr e.2 = true → e.1 ≠ some (.ref a) := fun e m f => by
              rcases List.mem_cons.mp m with rfl | m
              · rw [show isFr x = true from f] at hf; cases hf.2
              · exact hg e m f
            obtain ⟨u1, u2⟩ := RS.unlock (r'.perm (List.Perm.swap _ _ _)) hf.1 hg2 h0
            exact ⟨u1, p _ _ _ u2⟩
          · rw [if_neg hf] at p; exact p.elim
        | er ex δ2 => simp only [h2] at p; exact p.elim
        | no => simp only [h2] at p; exact p.elim
theorem RK.key {N : Addr → Prop} {H : Hp} : ∀ {kvs : List (Key × V)} {ds : List (PyData × PyData)}, RK X.K N H kvs ds → ∀ {j : Nat} {k : Key} {v : V}, kvs[j]? = some (k, v) → (ds.map (·.1))[j]? = some (keyD k)
  | _, _, .nil, j, k, v, h => by simp at h
  | _, _, .cons h0 r, 0, k, v, h => by
    simp only [List.getElem?_cons_zero, Option.some.injEq] at h
    cases h
    rfl
  | _, _, .cons h0 r, j + 1, k, v, h => by
    simp only [List.getElem?_cons_succ] at h
    exact RK.key r h
theorem key_R {N : Addr → Prop} {H : Hp} (k : Key) : R X.K N H (kV k) (keyD k) := by
  cases k with
  | inl i => exact .int i
  | inr s => exact .str s
theorem d_keys (i : Nat) {tg : Expr} {x : Str} {p : Pos} (hN : X.N[i]? = some x := by rfl) (hv : Vis X.env.scope x := by first | exact Or.inl rfl | exact Or.inr (Or.inl rfl) | exact Or.inr (Or.inr rfl)) (hd : (x == ("__debug__" : Str)) = false := by decide)
    (hcd : (x == ("__classdict__" : Str)) = false := by decide) : PI X tg (.Name x p) (tI X.K W (keysM i)) :=
  PI.imp (pi_keys (pe_var hN hv hd hcd)) fun σ H R ⟨Γ, δ, γ, r, q⟩ => by
    unfold keysM at q
    cases h : δ[i]? with
    | none => rw [h] at q; exact q.elim
    | some s =>
      rw [h] at q
      cases s with
      | fr ds =>
        obtain ⟨o, h1, h2⟩ := zip_at r.len.eq h
        obtain ⟨a, e1, n, ob, kvs, e, rr⟩ := r.rel.each _ (List.mem_append_left _ (List.mem_of_getElem? h2))
        have e2 : o = some (.ref a) := e1
        subst e2
        refine ⟨_, h1, a, ob, rfl, .inl ⟨kvs, e, ?_⟩⟩
        have hl : kvs.length = (ds.map (·.1)).length := by rw [List.length_map]; exact rr.length
        refine q _ H [(some (.ref a), .fz ob kvs)] (fun e m => by rcases List.mem_cons.mp m with rfl | m; rfl; cases m) ⟨r.len, r.rel.push rfl ⟨a, rfl, n, e⟩⟩ ?_
        intro Γ2 σ2 δ2 γ2 H2 r2 j
        obtain ⟨a', e1', _, e'⟩ := r2.rel.each _ (List.mem_append_right _ List.mem_cons_self)
        cases e1'
        refine ⟨fun hj => ⟨e', by omega⟩, fun hj => ⟨e', by omega⟩, fun y H3 d hy hd => ?_⟩
        obtain ⟨rfl, k, v, hk, rfl⟩ := hy
        rw [RK.key rr hk] at hd
        cases hd
        exact ⟨r2.len, r2.rel.push rfl ⟨_, rfl, key_R k⟩⟩
      | _ => exact q.elim
end
end DL

set_option Elab.async false
set_option linter.all false
set_option maxRecDepth 100000
set_option maxHeartbeats 4000000
namespace DL
open PySem PySem.Spec PyProof.Rows L2
/-! ### sorted(d.values()) of ints -/
section
variable {X : Cx} {o : Expr} {p pos apos mpos : Pos} {td : TE}
def tSortVals (td : TE) : TE := fun σ H Q => td σ H fun x H1 => ∃ (a : Addr) (kvs : List (Key × V)) (is : List Int), x = V.ref a ∧ Rd H1 a (.dK kvs) ∧ kvs.map (·.2) = is.map V.int ∧ is.length < 64 ∧
  ∀ (ys : List Int) (q : Addr), ys.Perm is → ys.Pairwise (· ≤ ·) → H1 q = none → Q (.ref q) (upd H1 q (.lst (ys.map V.int)))
theorem pe_sortVals (calm : X.calm = true) (gl : Gl X "sorted") (nm : X.mg "sorted" = none) (hd : PE X o td) (hb : attributeBase o "values" X.env (eval o X.env) = eval o X.env := by rfl) (hline : (apos.endLine == mpos.line) = true := by rfl)
    (hse : starEach [Expr.Call (.Attribute o "values" apos) [] [] mpos] X.env = [(false, eval (Expr.Call (.Attribute o "values" apos) [] [] mpos) X.env)] := by rfl) :
    PE X (.Call (.Name "sorted" p) [.Call (.Attribute o "values" apos) [] [] mpos] [] pos) (tSortVals td) := by
  refine ⟨fun pins s σ H Q I h => ?_⟩
  refine wpAny_Call_Name_kw (ld_blt I gl nm (u := .builtin "sorted") (by first | rfl | decide +kernel) ?_ (by first | decide +kernel | decide) (by first | decide +kernel | decide))
  rw [hse]
  refine PySem.callWith_builtin1 (wpAny_Call_method0_late hb hline (thn (hd.run pins s σ H _ I h) fun v t1 ⟨x, G, J, rx, a, kvs, is, ex, ha, hv, h64, fin⟩ => ?_))
  subst ex
  obtain rfl : v = Value.ref a := rx
  obtain ⟨z0, hsys, vs, rel, dof⟩ := dk_rd J.hok ha
  obtain ⟨ep, dat⟩ := dof.dictAt
  have dat2 := dat
  obtain ⟨ob, es, ho, exd, hdat, hko, hpr, hnd⟩ := dat2
  refine ⟨"dict", "dict.values", F.plainAttrs_dict, F.slot_dict_values, F.type_dict_values, ⟨ob, ho, exd.1⟩, fun b e => by cases e; exact ⟨ob, ho, exd.2.1⟩, Calls.callWith_builtin rfl (PySem.evalArgs_none ?_)⟩
  refine call_meetsIn F.slot_dict_values ⟨ob, ho, exd.1⟩ F.entry_dict_values (F.args_dict_values_1 _) (meets_dict_values (mixKind X.prog X.w) a hsys) ⟨⟨vs, dof⟩, ?_⟩
  have up : ∀ b u, t1.heap.get? b = some u → (t1.heap.push { cls := .type "dict_values", data := .fields #[.ref a] }).get? b = some u := fun b u e => Heap.get?_push_of_some _ e
  have dat1 : (t1.heap.push { cls := .type "dict_values", data := .fields #[.ref a] }).DictAt (mixKind X.prog X.w) a vs ep := dat.keep up
  have hlv : vs.length = is.length := by
    have e1 := congrArg List.length hv
    rw [List.length_map, List.length_map] at e1
    rw [← e1]
    exact (KV.length rel).symm
  have hn16 : vs.length ≤ sizeLine := by rw [hlv, sizeLine_eq]; omega
  refine Calls.call_function_entry kind_sorted plain_sorted entry_sorted (args_sorted1 _) ?_
  unfold Builtin.«sorted»
  refine wpAny_bind (m := checkCount "sorted" 1 1 _) (wpAny_pure ?_)
  refine wpAny_bind (PySem.W.kdu_collect (A := X.A.in1) (PySem.W.kdl_values (knd := mixKind X.prog X.w) (kvs := vs) (ep := ep)) (I.ok.hd calm) ⟨⟨_, Heap.get?_push_size _ rfl, rfl, rfl⟩, dat1⟩ hn16 fun g tk acc hk hacc => ?_)
  have len : acc.toList.length = is.length := by rw [Array.length_toList, hacc.1, hlv]
  have hS : IntsAre acc.toList is := ints_each len fun j v e => by
    obtain ⟨k, e1⟩ := hacc.2 j v (by rw [← Array.getElem?_toList]; exact e)
    obtain ⟨x, f1, f2⟩ := KV.at' rel e1
    have e2 : (kvs.map (·.2))[j]? = some x := by rw [List.getElem?_map, f1]; rfl
    rw [hv, List.getElem?_map] at e2
    obtain ⟨i, hi, e3⟩ := Option.map_eq_some_iff.mp e2
    subst e3
    obtain ⟨t, e4⟩ := f2
    exact ⟨i, t, hi, e4⟩
  have J1 : Inv X pins σ G { t1 with heap := g, toks := tk } := J.kept fun b u e => hk b u (up b u e)
  refine wpAny_bind (wpAny_newList ?_ (by rw [len, sizeLine_eq]; omega))
  have hoL : (g.push (seqObj "list" acc.toList.toArray 0)).get? g.objs.size = some (seqObj "list" acc.toList.toArray 0) := Heap.get?_push_size _ rfl
  show wpAny _ _ _ _ _ { t1 with heap := g.push (seqObj "list" acc.toList.toArray 0), toks := tk }
  refine wpAny_bind (wpAny_holding (wpAny_call_entry slot_list_sort ⟨_, hoL, rfl⟩ entry_list_sort
    (list_sort_tree (s := { t1 with heap := g.push (seqObj "list" acc.toList.toArray 0), toks := tk }) hoL hS (by rw [len]; exact h64) fun out ys g1 g2 g3 => ⟨_, rfl, ?_⟩) (args_list_sort _)))
  obtain ⟨e5, he5⟩ := sortedHeap_at (vs := acc.toList) (out := out) hoL
  have hys : (ys.map V.int).length ≤ sizeLine := by
    rw [List.length_map, g2.length_eq]
    exact Nat.le_trans (Nat.le_of_lt h64) (by decide)
  refine wpAny_pure ⟨_, rfl, .ref g.objs.size, upd G g.objs.size (.lst (ys.map V.int)), J1.laid (t' := tk) (fun b u e => ?_) (Nat.le_refl _)
    (show ObjOk X.prog X.w _ _ _ (.lst (ys.map V.int)) from ⟨hys, out.toList, e5, vals_of_ints g1, by rw [Array.toArray_toList]; exact he5⟩), rfl, fin ys _ g2 g3 (J1.hok.fresh (Nat.le_refl _))⟩
  have hlt : b < g.objs.size := Heap.lt_size e
  rw [sortedHeap_old (Nat.ne_of_lt hlt) (by rw [size_push']; exact Nat.lt_succ_of_lt hlt)]
  exact Heap.get?_push_of_some _ e
end
end DL

set_option Elab.async false
set_option linter.all false
set_option maxRecDepth 100000
set_option maxHeartbeats 1000000
namespace DL
open PySem PySem.Spec PyProof.Rows L2
/-! ### sorting, as data -/
def srtI (l : List Int) : List Int := l.mergeSort fun a b => decide (a ≤ b)
theorem srtI_perm (l : List Int) : (srtI l).Perm l := List.mergeSort_perm _ _
theorem srtI_pw (l : List Int) : (srtI l).Pairwise (· ≤ ·) := by
  have h := List.pairwise_mergeSort (le := fun a b : Int => decide (a ≤ b)) (fun a b c h1 h2 => by simp at *; omega) (fun a b => by simp; omega) l
  exact h.imp fun h => of_decide_eq_true h
theorem srtI_eq {l m : List Int} (h : m.Perm l) (s : m.Pairwise (· ≤ ·)) : m = srtI l :=
  List.Perm.eq_of_pairwise (le := fun a b : Int => a ≤ b) (fun a b _ _ h1 h2 => by omega) s (srtI_pw l) (h.trans (srtI_perm l).symm)
def leS (a b : Str) : Bool := decide (a.cps.toList ≤ b.cps.toList)
def srtS (l : List Str) : List Str := l.mergeSort leS
theorem srtS_perm (l : List Str) : (srtS l).Perm l := List.mergeSort_perm _ _
theorem leS_trans (a b c : Str) (h1 : leS a b = true) (h2 : leS b c = true) : leS a c = true :=
  decide_eq_true (List.le_trans (of_decide_eq_true h1) (of_decide_eq_true h2))
theorem leS_total (a b : Str) : (leS a b || leS b a) = true := by
  rcases List.le_total a.cps.toList b.cps.toList with h | h
  · rw [show leS a b = true from decide_eq_true h]; rfl
  · rw [show leS b a = true from decide_eq_true h, Bool.or_true]
theorem leS_anti {a b : Str} (h1 : leS a b = true) (h2 : leS b a = true) : a = b := by
  have e : a.cps.toList = b.cps.toList := List.le_antisymm (of_decide_eq_true h1) (of_decide_eq_true h2)
  obtain ⟨⟨x⟩⟩ := a
  obtain ⟨⟨y⟩⟩ := b
  cases e
  rfl
theorem srtS_pw (l : List Str) : (srtS l).Pairwise fun a b => leS a b = true := List.pairwise_mergeSort leS_trans leS_total l
theorem rising_pw : ∀ (r : List Str) (p : Str), risingS p r = true → (p :: r).Pairwise fun a b => leS a b = true
  | [], p, _ => List.pairwise_singleton _ _
  | x :: r, p, h => by
    unfold risingS at h
    rw [Bool.and_eq_true, Bool.not_eq_true', ltCps_eq] at h
    have h1 : leS p x = true := decide_eq_true (List.not_lt.mp (of_decide_eq_false h.1))
    have h2 := rising_pw r x h.2
    refine List.pairwise_cons.mpr ⟨fun y hy => ?_, h2⟩
    rcases List.mem_cons.mp hy with rfl | hy
    · exact h1
    · exact leS_trans _ _ _ h1 ((List.pairwise_cons.mp h2).1 y hy)
theorem srtS_eq {l m : List Str} (h : m.Perm l) (s : sortedS m = true) : m = srtS l := by
  have pw : m.Pairwise fun a b => leS a b = true := by
    cases m with
    | nil => exact List.Pairwise.nil
    | cons x r => exact rising_pw r x s
  exact List.Perm.eq_of_pairwise (le := fun a b => leS a b = true) (fun a b _ _ h1 h2 => leS_anti h1 h2) pw (srtS_pw l) (h.trans (srtS_perm l).symm)
section
variable {K : PySem.W.Frag} {N : Addr → Prop} {H : Hp}
theorem RK.vals : ∀ {kvs : List (Key × V)} {ds : List (PyData × PyData)}, RK K N H kvs ds → RA K N H (kvs.map (·.2)) (ds.map (·.2))
  | _, _, .nil => .nil
  | _, _, .cons h r => .cons h (RK.vals r)
theorem RK.keysS {ks : List Str} : ∀ {kvs : List (Key × V)} {ds : List (PyData × PyData)}, RK K N H kvs ds → strs? (ds.map (·.1)) = some ks → kvs.map (·.1) = ks.map Sum.inr := by
  intro kvs ds h
  induction kvs generalizing ds ks with
  | nil => cases h; intro e; cases e; rfl
  | cons p r ih =>
    cases h with
    | @cons k v _ d es h1 h2 =>
      intro e
      cases k with
      | inl i => cases e
      | inr s =>
        change (strs? (es.map (·.1))).map (s :: ·) = some ks at e
        rw [Option.map_eq_some_iff] at e
        obtain ⟨ks', e1, e2⟩ := e
        subst e2
        rw [List.map_cons, List.map_cons, ih h2 e1]
/-- sorted(d.values()) -/
def gSortV : List PyData → Option Out
  | [.dict ds] => if isK ds = true ∧ ds.length < 64 then (ints? (ds.map (·.2))).map fun ns => .nw (.list ((srtI ns).map .int)) else none
  | _ => none
def rSortV (H : Hp) (x : V) (Q : VK) : Prop := ∃ (a : Addr) (kvs : List (Key × V)) (is : List Int), x = V.ref a ∧ Rd H a (.dK kvs) ∧ kvs.map (·.2) = is.map V.int ∧ is.length < 64 ∧
  ∀ (ys : List Int) (q : Addr), ys.Perm is → ys.Pairwise (· ≤ ·) → H q = none → Q (.ref q) (upd H q (.lst (ys.map V.int)))
theorem i_sortV : Impl K (L1r fun x H Q => rSortV H x Q) gSortV := by
  intro N H vs ds o Q h g q
  unfold gSortV at g
  split at g
  · rename_i ds
    obtain ⟨v, rfl, h1⟩ := h.one
    split at g
    · rename_i hk
      rw [Option.map_eq_some_iff] at g
      obtain ⟨ns, e, rfl⟩ := g
      obtain ⟨a, kvs, rfl, hd, r⟩ := h1.dictK hk.1
      have e2 := ints_ra e r.vals
      refine ⟨a, kvs, ns, rfl, hd, e2, ?_, fun ys p hp hs hn => ?_⟩
      · have := congrArg List.length e2
        rw [List.length_map, List.length_map] at this
        rw [← this, r.length]
        exact hk.2
      · rw [srtI_eq hp hs]
        exact q _ _ (same_upd hn) ⟨p, rfl, hn, _, upd_same, ra_ints _⟩
    · cases g
  · cases g
/-- sorted(d), keys texts -/
def gSortD : List PyData → Option Out
  | [.dict ds] => if isK ds = true then (strs? (ds.map (·.1))).bind fun ks => if ks.length < 64 then some (.nw (.list ((srtS ks).map .str))) else none else none
  | _ => none
theorem i_sortD : Impl K (fun xs H Q => ∃ (a : Addr) (kvs : List (Key × V)) (ks : List Str), xs = [.ref a] ∧ Rd H a (.dK kvs) ∧ kvs.map (·.1) = ks.map Sum.inr ∧ ks.length < 64 ∧
    ∀ ys p, ys.Perm ks → sortedS ys = true → H p = none → Q (.ref p) (upd H p (.lst (ys.map V.str)))) gSortD := by
  intro N H vs ds o Q h g q
  unfold gSortD at g
  split at g
  · rename_i ds
    obtain ⟨v, rfl, h1⟩ := h.one
    split at g
    · rename_i hk
      rw [Option.bind_eq_some_iff] at g
      obtain ⟨ks, e, g⟩ := g
      split at g
      · rename_i h64
        cases g
        obtain ⟨a, kvs, rfl, hd, r⟩ := h1.dictK hk
        refine ⟨a, kvs, ks, rfl, hd, r.keysS e, h64, fun ys p hp hs hn => ?_⟩
        rw [srtS_eq hp hs]
        exact q _ _ (same_upd hn) ⟨p, rfl, hn, _, upd_same, ra_strs _⟩
      · cases g
    · cases g
  · cases g
/-- sorted(xs), ints -/
def gSortI : List PyData → Option Out
  | [.list l] => (ints? l).map fun ns => .nw (.list ((srtI ns).map .int))
  | _ => none
theorem i_sortI : Impl K (rSortedI K) gSortI := by
  intro N H vs ds o Q h g q
  unfold gSortI at g
  split at g
  · rename_i l
    obtain ⟨v, rfl, h1⟩ := h.one
    rw [Option.map_eq_some_iff] at g
    obtain ⟨ns, e, rfl⟩ := g
    obtain ⟨a, xs, rfl, e1, r1⟩ := h1.list
    have e2 := ints_ra e r1
    subst e2
    refine ⟨a, ns, rfl, e1.sq, fun ys p hp hs hn => ?_⟩
    rw [srtI_eq hp hs]
    exact q _ _ (same_upd hn) ⟨p, rfl, hn, _, upd_same, ra_ints _⟩
  · cases g
/-- len(d) -/
def gLenD : List PyData → Option Out
  | [.dict ds] => if isK ds = true then some (.sh (.int (ds.length : Nat))) else none
  | _ => none
theorem i_lenD : Impl K (fun xs H Q => ∃ a kvs, xs = [V.ref a] ∧ Rd H a (.dK kvs) ∧ Q (.int (kvs.length : Nat)) H) gLenD := by
  intro N H vs ds o Q h g q
  unfold gLenD at g
  split at g
  · rename_i ds
    obtain ⟨v, rfl, h1⟩ := h.one
    split at g
    · rename_i hk
      cases g
      obtain ⟨a, kvs, rfl, hd, r⟩ := h1.dictK hk
      refine ⟨a, kvs, rfl, hd, ?_⟩
      rw [r.length]
      exact q _ _ (.refl _) (.int _)
    · cases g
  · cases g
/-- dict(d) -/
def gDictD : List PyData → Option Out
  | [.dict ds] => if isK ds = true then some (.nw (.dict ds)) else none
  | _ => none
theorem RK.new {H' : Hp} {v : List (Key × V)} {d : List (PyData × PyData)} (h : RK K N H v d) (s : Same H H') : RK K (fun a => N a ∧ H a ≠ none) H' v d := h.mono (fun _ n q => ⟨n, q⟩) (fun _ _ h _ => s _ _ h) fun _ _ _ h => s _ _ h
theorem i_dictD : Impl K (fun xs H Q => ∃ (a : Addr) (kvs : List (Key × V)), xs = [.ref a] ∧ Rd H a (.dK kvs) ∧ ∀ p, H p = none → Q (.ref p) (upd H p (.dK kvs))) gDictD := by
  intro N H vs ds o Q h g q
  unfold gDictD at g
  split at g
  · rename_i ds
    obtain ⟨v, rfl, h1⟩ := h.one
    split at g
    · rename_i hk
      cases g
      obtain ⟨a, kvs, rfl, hd, r⟩ := h1.dictK hk
      exact ⟨a, kvs, rfl, hd, fun p hn => q _ _ (same_upd hn) ⟨p, rfl, hn, .inl ⟨kvs, upd_same, r.new (same_upd hn)⟩⟩⟩
    · cases g
  · cases g
/-- dict(xs), pairs -/
def pairs? : List PyData → Option (List (Key × PyData))
  | [] => some []
  | .tuple [k, d] :: r => (keyOf k).bind fun k => (pairs? r).map ((k, d) :: ·)
  | _ => none
def dmerge (ds : List (PyData × PyData)) (kds : List (Key × PyData)) : List (PyData × PyData) := kds.foldl (fun acc p => dput acc p.1 p.2) ds
theorem RK.merge {kds : List (Key × PyData)} : ∀ {more : List (Key × V)} {kvs : List (Key × V)} {ds : List (PyData × PyData)}, Paired (fun (p : Key × V) (q : Key × PyData) => p.1 = q.1 ∧ R K N H p.2 q.2) more kds → RK K N H kvs ds → RK K N H (mergeK kvs more) (dmerge ds kds) := by
  intro more kvs ds h
  induction h generalizing kvs ds with
  | nil => exact fun r => r
  | @cons p q ps qs h1 _ ih =>
    intro r
    obtain ⟨k, v⟩ := p
    obtain ⟨k', d⟩ := q
    obtain ⟨e, hr⟩ := h1
    have e' : k = k' := e
    subst e'
    exact ih (r.put hr)
theorem RA.pairs {kds : List (Key × PyData)} : ∀ {xs : List V} {ds : List PyData}, RA K N H xs ds → pairs? ds = some kds → ∃ (ps : List Addr) (kvs : List (Key × V)), xs = ps.map V.ref ∧ Paired (fun p kv => SqT K H p [kV kv.1, kv.2]) ps kvs ∧ Paired (fun (p : Key × V) (q : Key × PyData) => p.1 = q.1 ∧ R K N H p.2 q.2) kvs kds := by
  intro xs ds h
  induction xs generalizing ds kds with
  | nil => cases h; intro e; cases e; exact ⟨[], [], rfl, .nil, .nil⟩
  | cons x xs ih =>
    cases h with
    | @cons _ _ d es h1 h2 =>
      intro e
      unfold pairs? at e
      split at e
      · rename_i heq; cases heq
      · rename_i k dd r heq
        cases heq
        rw [Option.bind_eq_some_iff] at e
        obtain ⟨key, ek, e⟩ := e
        rw [Option.map_eq_some_iff] at e
        obtain ⟨kds', e1, rfl⟩ := e
        obtain ⟨ps, kvs, rfl, p1, p2⟩ := ih h2 e1
        obtain ⟨a, ys, ea, ht, hr⟩ := h1.sqt
        subst ea
        cases hr with
        | cons ha hb =>
          cases hb with
          | cons hb hc =>
            cases hc
            have ev := (Top.val ha).keyOf ek
            subst ev
            exact ⟨a :: ps, (key, _) :: kvs, rfl, .cons ht p1, .cons ⟨rfl, hb⟩ p2⟩
      · cases e
def gDictP : List PyData → Option Out
  | [.list l] => (pairs? l).map fun kds => .nw (.dict (dmerge [] kds))
  | [.tuple l] => (pairs? l).map fun kds => .nw (.dict (dmerge [] kds))
  | _ => none
theorem pairs_keyish {ds : List PyData} {kds : List (Key × PyData)} (h : pairs? ds = some kds) : keyish ds = false := by
  cases ds with
  | nil => rfl
  | cons d r =>
    cases d with
    | tuple l => simp [keyish, keyItem]
    | _ => unfold pairs? at h; cases h
abbrev rDictPA (K : PySem.W.Frag) : List V → Hp → VK → Prop := fun xs H Q => (∃ (a : Addr) (ps : List Addr) (kvs : List (Key × V)), xs = [.ref a] ∧ SqL K H a (ps.map V.ref) ∧ Paired (fun p kv => SqT K H p [kV kv.1, kv.2]) ps kvs ∧
    ∀ p, H p = none → Q (.ref p) (upd H p (.dK (mergeK [] kvs)))) ∨ rDictTup K xs H Q
theorem call_dictPA {X : Cx} (calm : X.calm = true) : CallR X (.type "dict") (rDictPA X.K) := (call_dictP calm).or (call_dictTup calm)
theorem i_dictP : Impl K (rDictPA K) gDictP := by
  intro N H vs ds o Q h g q
  unfold gDictP at g
  split at g
  · rename_i l
    obtain ⟨v, rfl, h1⟩ := h.one
    rw [Option.map_eq_some_iff] at g
    obtain ⟨kds, e, rfl⟩ := g
    obtain ⟨a, xs, rfl, e1, r1⟩ := h1.list
    obtain ⟨ps, kvs, rfl, p1, p2⟩ := r1.pairs e
    refine .inl ⟨a, ps, kvs, rfl, e1.sq, p1, fun p hn => q _ _ (same_upd hn) ⟨p, rfl, hn, .inl ⟨_, upd_same, ?_⟩⟩⟩
    exact (RK.merge p2 .nil).new (same_upd hn)
  · rename_i l
    obtain ⟨v, rfl, h1⟩ := h.one
    rw [Option.map_eq_some_iff] at g
    obtain ⟨kds, e, rfl⟩ := g
    have nk := pairs_keyish e
    have q1 := h1.tupR
    cases q1 with
    | tup _ _ k => rw [nk] at k; cases k
    | tupX hx ho r1 _ =>
      obtain ⟨ps, kvs, rfl, p1, p2⟩ := r1.pairs e
      refine .inr ⟨_, _, ps, kvs, rfl, hx, ho, p1, fun p hn => q _ _ (same_upd hn) ⟨p, rfl, hn, .inl ⟨_, upd_same, ?_⟩⟩⟩
      exact (RK.merge p2 .nil).new (same_upd hn)
  · cases g
/-- xs.count(k), ints -/
def gCount : List PyData → Option Out
  | [.list l, .int k] => (ints? l).map fun ns => .sh (.int (ns.count k : Nat))
  | _ => none
theorem im_count : Impl K (Lmr (rCntI K)) gCount := by
  intro N H vs ds o Q h g q
  unfold gCount at g
  split at g
  · rename_i l k
    obtain ⟨v, w, rfl, h1, h2⟩ := h.two
    rw [Option.map_eq_some_iff] at g
    obtain ⟨ns, e, rfl⟩ := g
    obtain ⟨a, xs, rfl, e1, r1⟩ := h1.list
    have e2 := ints_ra e r1
    subst e2
    exact ⟨a, ns, k, rfl, by rw [h2.int], e1.sq, q _ _ (.refl _) (.int _)⟩
  · cases g
end
section
variable {X : Cx} {W : XW} {pos : Pos}
theorem d_sortV {o : Expr} {p apos mpos : Pos} {mo : M Sl} (calm : X.calm = true) (gl : Gl X "sorted") (nm : X.mg "sorted" = none) (hd : PE X o (tV X.K W mo)) (hb : attributeBase o "values" X.env (eval o X.env) = eval o X.env := by rfl) (hline : (apos.endLine == mpos.line) = true := by rfl)
    (hse : starEach [Expr.Call (.Attribute o "values" apos) [] [] mpos] X.env = [(false, eval (Expr.Call (.Attribute o "values" apos) [] [] mpos) X.env)] := by rfl) :
    PE X (.Call (.Name "sorted" p) [.Call (.Attribute o "values" apos) [] [] mpos] [] pos) (tV X.K W (mUn gSortV mo)) :=
  PE.imp (pe_sortVals calm gl nm hd hb hline hse) fun σ H Q ⟨Γ, δ, γ, r, p⟩ => ⟨Γ, δ, γ, r, (Post.bind p).imp fun x δ1 p1 v H1 r1 =>
    run_op i_sortV (vs := [v]) (rs := [x]) (γ' := γ) r1 (fun e m => by
      rcases List.mem_cons.mp m with rfl | m
      · exact List.mem_cons_self
      · cases m) rfl (p1.imp fun s δ' k v' H'' r' => k v' H'' (drop1 (γ₀ := [(some v, x)]) r'))⟩
end
end DL

set_option Elab.async false
set_option linter.all false
set_option maxRecDepth 100000
set_option maxHeartbeats 2000000
namespace DL
open PySem PySem.Spec PyProof.Rows L2
/-! ### list(d.items()), small displays -/
section
variable {X : Cx} {W : XW} {e : Expr} {te : TE} {p apos cpos pos : Pos}
def rItemsD (x : V) (H : Hp) (Q : VK) : Prop := ∃ (d : Addr) (kvs : List (Key × V)), x = .ref d ∧ Rd H d (.dK kvs) ∧
  ∀ (H' : Hp) (q : Addr) (ts : List Addr), (∀ b o, H b = some o → H' b = some o) → H q = none → H' q = some (.lst (ts.map V.ref)) → Paired (fun (t : Addr) (z : Key × V) => H' t = some (.tup [kV z.1, z.2])) ts kvs → Q (.ref q) H'
theorem pe_listItemsR (calm : X.calm = true) (he : PE X e te) (gl : Gl X "list") (nm : X.mg "list" = none) (hv : bootBuiltins "list" = some (.type "list")) (hb : attributeBase e "items" X.env (eval e X.env) = eval e X.env := by rfl) (hline : (apos.endLine == cpos.line) = true := by rfl)
    (hs : starEach [.Call (.Attribute e "items" apos) [] [] cpos] X.env = (false, eval (.Call (.Attribute e "items" apos) [] [] cpos) X.env) :: starEach [] X.env := by rfl) :
    PE X (.Call (.Name "list" p) [.Call (.Attribute e "items" apos) [] [] cpos] [] pos) (fun σ H Q => te σ H fun x H1 => rItemsD x H1 Q) := by
  refine ⟨fun pins s σ H Q I h => ?_⟩
  refine wpAny_Call_Name_kw (ld_blt I gl nm hv ?_)
  refine callWith_type1 ?_ hs rfl
  rw [hs]
  show wpAny _ _ (spliced ((false, eval (.Call (.Attribute e "items" apos) [] [] cpos) X.env) :: backTo pos (starEach [] X.env))) _ _ s
  refine Calls.spliced_cons ?_
  refine wpAny_Call_method (T := "dict") (id := "dict.items") hb rfl hline F.plainAttrs_dict F.slot_dict_items F.type_dict_items (thn (he.run pins s σ H _ I h) fun u t1 ⟨x, G, J, rx, d, kvs, ex, hd, fin⟩ => ?_)
  subst ex
  obtain rfl : u = Value.ref d := rx
  obtain ⟨hz, lo, vs, kv, hdo⟩ := dk_rd J.hok hd
  obtain ⟨ep, hat⟩ := hdo.dictAt
  have lk : kvs.length = vs.length := Paired.length kv
  have J2 : Inv X pins σ G { t1 with heap := t1.heap.push { cls := .type "dict_items", data := .fields #[.ref d] } } := J.kept (t' := t1.toks) fun b ob z => Heap.get?_push_of_some _ z
  refine ⟨hdo.typeIs, hdo.mapOf.noDict, ?_⟩
  show wpAny _ _ (callWith cpos (.builtin "dict.items") [.ref d] [] []) _ X.xe t1
  refine method_meetsIn F.slot_dict_items F.entry_dict_items rfl (PySem.evalArgs_none ⟨rfl, hdo.typeIs, F.args_dict_items_1 _, _, meets_dict_items (mixKind X.prog X.w) d lo, ⟨vs, hdo⟩, ?_⟩)
  refine Calls.spliced_nil ?_
  refine PySem.W.kdx_call (knd := mixKind X.prog X.w) (kvs := vs) (ep := ep) (J.ok.hd calm) ⟨_, Heap.get?_push_size _ rfl, rfl, rfl⟩ (hat.push _) (by omega) fun g tk acc c ts hk hS hl hG hacc => ?_
  obtain ⟨G', k1, k2, k3, k4, k5, k6, J3⟩ := LiI.items_laid (tk := tk) J2 hz kv hk hS hl hG hacc
  exact ⟨.ref _, G', J3, rfl, fin G' _ ts k1 k2 k5 k6⟩
def gItems : List PyData → Option Out
  | [.dict ds] => if isK ds = true ∧ (ds.all fun kv => keyItem kv.2) = true then some (.nw (.list (ds.map fun kv => .tuple [kv.1, kv.2]))) else none
  | _ => none
theorem items_ra {K : PySem.W.Frag} {N : Addr → Prop} {H : Hp} : ∀ {ts : List Addr} {kvs : List (Key × V)} {ds : List (PyData × PyData)}, Paired (fun (t : Addr) (z : Key × V) => H t = some (.tup [kV z.1, z.2])) ts kvs → RK K N H kvs ds → (ds.all fun kv => keyItem kv.2) = true → RA K N H (ts.map V.ref) (ds.map fun kv => .tuple [kv.1, kv.2])
  | [], [], _, _, r, _ => by cases r; exact .nil
  | t :: ts, (k, v) :: kvs, _, h, r, ha => by
    cases r with
    | cons h1 r =>
      cases h with
      | cons h0 h2 =>
        rw [List.all_cons, Bool.and_eq_true] at ha
        refine .cons (.tup h0 (.cons ?_ (.cons h1 .nil)) ?_) (items_ra h2 r ha.2)
        · cases k with
          | inl i => exact .int i
          | inr s => exact .str s
        · show (true && (keyItem (keyD k) && (keyItem _ && true))) = true
          rw [ha.1]
          cases k <;> rfl
theorem i_items {K : PySem.W.Frag} : Impl K (L1r fun x H Q => rItemsD x H Q) gItems := by
  intro N H vs ds o Q h g q
  unfold gItems at g
  split at g
  · rename_i ds
    obtain ⟨v, rfl, h1⟩ := h.one
    split at g
    · rename_i hk
      cases g
      obtain ⟨a, kvs, rfl, hd, r⟩ := h1.dictK hk.1
      exact ⟨a, kvs, rfl, hd, fun H' p ts k1 k2 k5 k6 => q _ _ k1 ⟨p, rfl, k2, _, k5, items_ra k6 (r.new k1) hk.2⟩⟩
    · cases g
  · cases g
theorem d_listItems {mo : M Sl} (calm : X.calm = true) (he : PE X e (tV X.K W mo)) (gl : Gl X "list") (nm : X.mg "list" = none) (hv : bootBuiltins "list" = some (.type "list")) (hb : attributeBase e "items" X.env (eval e X.env) = eval e X.env := by rfl) (hline : (apos.endLine == cpos.line) = true := by rfl)
    (hs : starEach [.Call (.Attribute e "items" apos) [] [] cpos] X.env = (false, eval (.Call (.Attribute e "items" apos) [] [] cpos) X.env) :: starEach [] X.env := by rfl) :
    PE X (.Call (.Name "list" p) [.Call (.Attribute e "items" apos) [] [] cpos] [] pos) (tV X.K W (mUn gItems mo)) :=
  PE.imp (pe_listItemsR calm he gl nm hv hb hline hs) fun σ H Q ⟨Γ, δ, γ, r, p⟩ => ⟨Γ, δ, γ, r, (Post.bind p).imp fun x δ1 p1 v H1 r1 =>
    run_op i_items (vs := [v]) (rs := [x]) (γ' := γ) r1 (fun e m => by
      rcases List.mem_cons.mp m with rfl | m
      · exact List.mem_cons_self
      · cases m) rfl (p1.imp fun s δ' k v' H'' r' => k v' H'' (drop1 (γ₀ := [(some v, x)]) r'))⟩
/-- {'x': i} -/
def disp1 (x : Str) (i : Int) : M Sl := fun δ => .ok (.ow (.dict [(.str x, .int i)])) δ
theorem d_disp1 {x : Str} {i : Int} {j j' : Nat} {p1 p2 : Pos} : PE X (.Dict [some (.Constant (.str x) j p1)] [.Constant (.int i) j' p2] pos) (tV X.K W (disp1 x i)) :=
  PE.imp (pe_disp (pps_cons pe_str pe_int pps_nil) rfl rfl (fun z => nomatch z) (by show 1 ≤ 15; omega)) fun σ H Q ⟨Γ, δ, γ, r, p⟩ q hq =>
    ⟨upd_same, [(.inr x, .int i)], rfl, by show 1 ≤ 15; omega, by
      rw [show upd (upd H q (.dK [])) q (.dK (mergeK [] [(.inr x, .int i)])) = upd H q (.dK [(.inr x, .int i)]) from funext fun a => by
        by_cases z : a = q
        · rw [z, upd_same, upd_same]; rfl
        · rw [upd_ne z, upd_ne z, upd_ne z]]
      exact p _ _ ⟨r.len, r.rel.made (same_upd hq) hq (.inl ⟨_, upd_same, .cons (.int i) .nil⟩)⟩⟩
end
/-! ### a mirror's guard -/
theorem ifI_len {k n : Nat} {m : SM} (d : PyData) (ds : List PyData) (h : (if ds.length + 1 = k then runI n m d ds else .no) ≠ .no) : ds.length + 1 = k := by
  by_cases z : ds.length + 1 = k
  · exact z
  · exact absurd (if_neg z) h
theorem ifI_eq {k n : Nat} {m : SM} (d : PyData) (ds : List PyData) (h : (if ds.length + 1 = k then runI n m d ds else .no) ≠ .no) : (if ds.length + 1 = k then runI n m d ds else .no) = runI n m d ds := if_pos (ifI_len d ds h)
theorem ifP_len {k n : Nat} {m : SM} (ds : List PyData) (h : (if ds.length = k then runP n m ds else .no) ≠ .no) : ds.length = k := by
  by_cases z : ds.length = k
  · exact z
  · exact absurd (if_neg z) h
theorem ifP_eq {k n : Nat} {m : SM} (ds : List PyData) (h : (if ds.length = k then runP n m ds else .no) ≠ .no) : (if ds.length = k then runP n m ds else .no) = runP n m ds := if_pos (ifP_len ds h)
end DL

set_option Elab.async false
set_option linter.all false
set_option maxRecDepth 100000
namespace DL
open PySem PySem.Spec PyProof.Rows L2
/-! ### dicts, read from the end -/
section
variable {N : List Sl → Prop} {T : Sl → List Sl → Prop} {B C : List Sl → Prop} {Q : Sl → List Sl → Prop} {U : List PyData → List Sl → Prop} {δ : List Sl} {m : M Sl} {s : SM}
@[simp ↓] theorem wM_lock {i : Nat} : wM (lockM i m δ) Q = match frD δ i with
  | some δ1 => wM (m δ1) fun r δ2 => (noFz δ2 = true ∧ isFr r = false) ∧ Q r (δ2.map unfr)
  | none => False := by
  unfold lockM
  cases frD δ i with
  | none => exact wM_no
  | some δ1 =>
    dsimp only
    cases m δ1 with
    | ok r δ2 =>
      dsimp only
      rw [wM_ok]
      by_cases h : noFz δ2 = true ∧ isFr r = false
      · rw [if_pos h, wM_ok]; exact propext ⟨fun q => ⟨h, q⟩, fun q => q.2⟩
      · rw [if_neg h, wM_no]; exact propext ⟨False.elim, fun q => h q.1⟩
    | er e δ2 => exact wM_no.trans wM_er.symm
    | no => exact wM_no.trans wM_no.symm
@[simp ↓] theorem wS_lock {i : Nat} : wS (lockS i s δ) N T B C = match frD δ i with
  | some δ1 => wS (s δ1) (fun δ2 => noFz δ2 = true ∧ N (δ2.map unfr)) (fun r δ2 => (noFz δ2 = true ∧ isFr r = false) ∧ T r (δ2.map unfr)) (fun δ2 => noFz δ2 = true ∧ B (δ2.map unfr)) (fun δ2 => noFz δ2 = true ∧ C (δ2.map unfr))
  | none => False := by
  unfold lockS
  cases frD δ i with
  | none => exact wS_no
  | some δ1 =>
    dsimp only
    cases s δ1 with
    | nx δ2 =>
      dsimp only
      rw [wS_nx]
      by_cases h : noFz δ2 = true
      · rw [if_pos h, wS_nx]; exact propext ⟨fun q => ⟨h, q⟩, fun q => q.2⟩
      · rw [if_neg h, wS_no]; exact propext ⟨False.elim, fun q => h q.1⟩
    | bk δ2 =>
      dsimp only
      rw [wS_bk]
      by_cases h : noFz δ2 = true
      · rw [if_pos h, wS_bk]; exact propext ⟨fun q => ⟨h, q⟩, fun q => q.2⟩
      · rw [if_neg h, wS_no]; exact propext ⟨False.elim, fun q => h q.1⟩
    | ct δ2 =>
      dsimp only
      rw [wS_ct]
      by_cases h : noFz δ2 = true
      · rw [if_pos h, wS_ct]; exact propext ⟨fun q => ⟨h, q⟩, fun q => q.2⟩
      · rw [if_neg h, wS_no]; exact propext ⟨False.elim, fun q => h q.1⟩
    | rt r δ2 =>
      dsimp only
      rw [wS_rt]
      by_cases h : noFz δ2 = true ∧ isFr r = false
      · rw [if_pos h, wS_rt]; exact propext ⟨fun q => ⟨h, q⟩, fun q => q.2⟩
      · rw [if_neg h, wS_no]; exact propext ⟨False.elim, fun q => h q.1⟩
    | er e δ2 => exact wS_no.trans wS_er.symm
    | no => exact wS_no.trans wS_no.symm
@[simp ↓] theorem wM_keys {i : Nat} : wM (keysM i δ) U = match δ[i]? with
  | some (.fr ds) => U (ds.map (·.1)) δ
  | _ => False := by
  unfold keysM
  cases δ[i]? with
  | none => exact wM_no
  | some s => cases s <;> first | exact wM_no | exact wM_ok
@[simp] theorem frD_eq {i : Nat} : frD δ i = match δ[i]? with
  | some (.ow (.dict ds)) => if isK ds = true then some (δ.set i (.fr ds)) else none
  | some (.sh (.dict ds)) => if isK ds = true then some (δ.set i (.fr ds)) else none
  | some (.fr _) => some δ
  | _ => none := id rfl
@[simp] theorem noFz_nil : noFz [] = true := id rfl
@[simp] theorem noFz_cons (s : Sl) (δ : List Sl) : noFz (s :: δ) = (!isFr (unfr s) && noFz δ) := id rfl
@[simp] theorem unfr_no : unfr .no = .no := id rfl
@[simp] theorem unfr_sh (d : PyData) : unfr (.sh d) = .sh d := id rfl
@[simp] theorem unfr_ow (d : PyData) : unfr (.ow d) = .ow d := id rfl
@[simp] theorem unfr_io (k : Nat) (d : PyData) : unfr (.io k d) = .io k d := id rfl
@[simp] theorem unfr_fr (ds : List (PyData × PyData)) : unfr (.fr ds) = .sh (.dict ds) := id rfl
@[simp] theorem isFr_no : isFr .no = false := id rfl
@[simp] theorem isFr_sh (d : PyData) : isFr (.sh d) = false := id rfl
@[simp] theorem isFr_ow (d : PyData) : isFr (.ow d) = false := id rfl
@[simp] theorem isFr_io (k : Nat) (d : PyData) : isFr (.io k d) = false := id rfl
@[simp] theorem isFr_fr (ds : List (PyData × PyData)) : isFr (.fr ds) = true := id rfl
@[simp] theorem isIo_fr (ds : List (PyData × PyData)) : isIo (.fr ds) = false := id rfl
@[simp] theorem isAl_fr (ds : List (PyData × PyData)) : Sl.isAl (.fr ds) = false := id rfl
@[simp ↓] theorem wM_dict : wM (dictM δ) Q = Q (.ow (.dict [])) δ := wM_ok
@[simp ↓] theorem wM_disp1 {x : Str} {i : Int} : wM (disp1 x i δ) Q = Q (.ow (.dict [(.str x, .int i)])) δ := wM_ok
end
section
variable {δ : List Sl} {Q : Sl → List Sl → Prop} {ds : List (PyData × PyData)} {l : List PyData} {i : Int} {a : Str}
@[simp ↓] theorem wg_ixs : wG (gIx [.str a, .int i]) δ Q = (a.length ≤ 1000000 ∧ wO (atI a.cps.toList i) fun c => Q (.sh (.str ⟨#[c]⟩)) δ) := by
  show wG (if a.length ≤ 1000000 then (atI a.cps.toList i).map fun c => .sh (.str ⟨#[c]⟩) else none) δ Q = _
  by_cases h : a.length ≤ 1000000
  · rw [if_pos h]
    refine Eq.trans ?_ (show _ = (_ ∧ _) from propext ⟨fun q => ⟨h, q⟩, fun q => q.2⟩)
    cases atI a.cps.toList i with
    | none => exact wG_none.trans (wO_none _).symm
    | some x => rw [wO_some]; exact wG_some
  · rw [if_neg h, wG_none]; exact propext ⟨False.elim, fun q => h q.1⟩
@[simp ↓] theorem wg_dgets : wG (gDGet [.dict ds, .str a]) δ Q = (isK ds = true ∧ wO (dget ds (.inr a)) fun d => Q (.sh d) δ) := by
  have en : gDGet [.dict ds, .str a] = if isK ds = true then (some (Sum.inr a : Key)).bind fun k => (dget ds k).map .sh else none := by
    show (if isK ds = true then (some (Sum.inr a : Key)).bind fun k => (dget ds k).map Out.sh else (unT ds).bind fun es => (qkey (.str a)).bind fun k => (tget es k).map Out.sh) = _
    cases unT ds <;> rfl
  rw [en]
  by_cases h : isK ds = true
  · rw [if_pos h]
    refine Eq.trans ?_ (show _ = (_ ∧ _) from propext ⟨fun q => ⟨h, q⟩, fun q => q.2⟩)
    show wG ((dget ds (.inr a)).map .sh) δ Q = _
    cases dget ds (.inr a) with
    | none => exact wG_none.trans (wO_none _).symm
    | some x => rw [wO_some]; exact wG_some
  · rw [if_neg h, wG_none]; exact propext ⟨False.elim, fun q => h q.1⟩
@[simp ↓] theorem wo_dicts {d : PyData} {Q : PyData → Prop} : wO (sDict (.dict ds) (.str a) d) Q = ((isK ds = true ∧ ds.length < 1000000) ∧ Q (.dict (dput ds (.inr a) d))) := by
  have en : sDict (.dict ds) (.str a) d = if isK ds = true ∧ ds.length < 1000000 then (some (Sum.inr a : Key)).map fun k => PyData.dict (dput ds k d) else none := by
    show (if isK ds = true ∧ ds.length < 1000000 then (some (Sum.inr a : Key)).map fun k => PyData.dict (dput ds k d) else (unT ds).bind fun es => if es.length < 1000000 then (qkey (.str a)).map fun k => PyData.dict ((PyData.none, PyData.none) :: tput es k d) else none) = _
    cases unT ds with
    | none => rfl
    | some es => simp [qkey]
  rw [en]
  by_cases h : isK ds = true ∧ ds.length < 1000000
  · rw [if_pos h]
    exact (wO_some _ _).trans (propext ⟨fun q => ⟨h, q⟩, fun q => q.2⟩)
  · rw [if_neg h, wO_none]; exact propext ⟨False.elim, fun q => h q.1⟩
@[simp ↓] theorem wg_lenD : wG (gLenD [.dict ds]) δ Q = (isK ds = true ∧ Q (.sh (.int (ds.length : Nat))) δ) := wG_if
@[simp ↓] theorem wg_dictD : wG (gDictD [.dict ds]) δ Q = (isK ds = true ∧ Q (.ow (.dict ds)) δ) := wG_if
@[simp ↓] theorem wg_items : wG (gItems [.dict ds]) δ Q = ((isK ds = true ∧ (ds.all fun kv => keyItem kv.2) = true) ∧ Q (.ow (.list (ds.map fun kv => .tuple [kv.1, kv.2]))) δ) := wG_if
@[simp ↓] theorem wg_dictPt : wG (gDictP [.tuple l]) δ Q = wO (pairs? l) fun kds => Q (.ow (.dict (dmerge [] kds))) δ := by
  show wG ((pairs? l).map fun kds => .nw (.dict (dmerge [] kds))) δ Q = _
  cases pairs? l with
  | none => simp [wG_none]
  | some k => rw [wO_some]; exact wG_some
@[simp ↓] theorem wg_dictP : wG (gDictP [.list l]) δ Q = wO (pairs? l) fun kds => Q (.ow (.dict (dmerge [] kds))) δ := by
  show wG ((pairs? l).map fun kds => .nw (.dict (dmerge [] kds))) δ Q = _
  cases pairs? l with
  | none => exact wG_none.trans (wO_none _).symm
  | some x => rw [wO_some]; exact wG_some
@[simp ↓] theorem wg_sortV : wG (gSortV [.dict ds]) δ Q = ((isK ds = true ∧ ds.length < 64) ∧ wO (ints? (ds.map (·.2))) fun ns => Q (.ow (.list ((srtI ns).map .int))) δ) := by
  show wG (if isK ds = true ∧ ds.length < 64 then (ints? (ds.map (·.2))).map fun ns => .nw (.list ((srtI ns).map .int)) else none) δ Q = _
  by_cases h : isK ds = true ∧ ds.length < 64
  · rw [if_pos h]
    refine Eq.trans ?_ (show _ = (_ ∧ _) from propext ⟨fun q => ⟨h, q⟩, fun q => q.2⟩)
    cases ints? (ds.map (·.2)) with
    | none => exact wG_none.trans (wO_none _).symm
    | some x => rw [wO_some]; exact wG_some
  · rw [if_neg h, wG_none]; exact propext ⟨False.elim, fun q => h q.1⟩
@[simp ↓] theorem wg_count {ns : List Int} {k : Int} : wG (gCount [.list (ns.map .int), .int k]) δ Q = Q (.sh (.int (ns.count k : Nat))) δ := by
  show wG ((ints? (ns.map .int)).map fun ns => .sh (.int (ns.count k : Nat))) δ Q = _
  rw [ints_of]
  exact wG_some
variable {m : M Sl} {ms : M (List Sl)}
@[simp ↓] theorem wM_methL {g : List PyData → Option Out} : wM (mMeth "list" g m ms δ) Q = wM (m δ) fun x δ1 => (match datS δ1 x with
  | some (.list _) => True
  | _ => False) ∧ wM (ms δ1) fun rs δ2 => wM (opM g (x :: rs) δ2) Q := by
  unfold mMeth
  refine wM_b fun x δ1 => ?_
  refine (wM_bind _ _ _ _).trans ?_
  unfold chkT
  cases h : datS δ1 x with
  | none => simp [wM_no]
  | some d =>
    cases d <;> simp [tyD, wM_no, wM_ok, wM_bind]
end
end DL

set_option Elab.async false
set_option linter.all false
set_option maxRecDepth 100000
set_option maxHeartbeats 4000000
namespace DL
open PySem PySem.Spec PyProof.Rows L2
/-! ### a set filled with texts -/
def disS (acc : List Str) (x : Str) : List Str := if acc.any (· == x) = true then acc else acc ++ [x]
def dis (xs : List Str) : List Str := xs.foldl disS []
theorem dis_snoc (xs : List Str) (x : Str) : dis (xs ++ [x]) = disS (dis xs) x := by unfold dis; rw [List.foldl_append]; rfl
theorem dis_le (xs : List Str) : (dis xs).length ≤ xs.length := by
  have : ∀ (xs acc : List Str), (xs.foldl disS acc).length ≤ acc.length + xs.length := by
    intro xs
    induction xs with
    | nil => intro acc; simp
    | cons x r ih =>
      intro acc
      have h1 := ih (disS acc x)
      have h2 : (disS acc x).length ≤ acc.length + 1 := by
        unfold disS
        split <;> simp
      simp only [List.foldl_cons, List.length_cons]
      omega
  have := this xs []
  simpa [dis] using this
section
variable {prog : Program} {w : World} {A : Around} {R : Result → Shared → Prop} {I : Addr} {fp wr : List Addr} {G : Array GenState → Array GenState → Prop} {n : Nat} {P : Nat → Value → Prop} {St : Nat → Shared → Prop}
theorem loopTxt (W : WalksS prog w A.in1 I fp wr G n P St) (S : Addr) (off : S ∉ fp) (xs : List Str) (hn : xs.length = n) (val : ∀ i v, P i v → ∃ t, v = .str (xs.getD i Str.empty) t) (room : n + 1 < scanBound) :
    ∀ (k i : Nat) (s : Shared), n - i = k → i ≤ n → St i s → s.heap.SetOf (PySem.strKind prog w) S (fun k' => (dis (xs.take i)).any (· == k')) (dis (xs.take i)).length →
      (∀ s', Moved (S :: wr) G s s' → s'.heap.SetOf (PySem.strKind prog w) S (fun k' => (dis xs).any (· == k')) (dis xs).length → R (.ok (.ret .none)) s') →
      codeAny (model prog w) A (.builtin "set.update.loop" ⟨[.ref S, .ref I], []⟩) R s := by
  have offw : S ∉ wr := fun h => off (W.sub _ h)
  have more : ∀ b ∈ wr, b ∈ S :: wr := fun b hb => List.mem_cons_of_mem _ hb
  intro k
  induction k with
  | zero =>
    intro i s hk hi hst hS fin
    have e : i = n := by omega
    subst e
    refine codeAny_builtin F.entry_set_update_loop ?_
    rw [Around.under_plainId F.plain_set_update_loop _]
    show wpAny _ A.in1 (pyNext (.ref I) >>= _) _ _ s
    refine wpAny_bind (W.done s _ _ hst fun s' mv => ?_)
    show wpAny _ A.in1 (ret Value.none) _ _ s'
    rw [← hn, List.take_length] at hS
    exact wpAny_pure (fin s' (mv.mono more) (by obtain ⟨o, es, ep, t, ho, rest⟩ := hS; exact ⟨o, es, ep, t, mv.heap S _ offw ho, rest⟩))
  | succ k ih =>
    intro i s hk hi hst hS fin
    have lt : i < n := by omega
    refine codeAny_builtin F.entry_set_update_loop ?_
    rw [Around.under_plainId F.plain_set_update_loop _]
    show wpAny _ A.in1 (pyNext (.ref I) >>= _) _ _ s
    refine wpAny_bind (W.item i s _ _ lt hst fun v s' hP st2 mv => ?_)
    obtain ⟨t, rfl⟩ := val i v hP
    have hS1 : s'.heap.SetOf (PySem.strKind prog w) S (fun k' => (dis (xs.take i)).any (· == k')) (dis (xs.take i)).length := by
      obtain ⟨o, es, ep, tb, ho, rest⟩ := hS
      exact ⟨o, es, ep, tb, mv.heap S _ offw ho, rest⟩
    show wpAny _ A.in1 (holding [Value.str (xs.getD i Str.empty) t] (setAdd S (.str (xs.getD i Str.empty) t)) >>= _) _ _ s'
    refine wpAny_bind (wpAny_holding ?_)
    unfold setAdd
    refine wpAny_holding ?_
    refine wpAny_bind ((PySem.strKind prog w).pyHash (k := xs.getD i Str.empty) (strKind_is _ _ _ _) ?_)
    have room1 : (dis (xs.take i)).length + 1 < scanBound := by
      have := dis_le (xs.take i)
      rw [List.length_take] at this
      omega
    refine wpAny_setAddHashed_of (knd := PySem.strKind prog w) (s := { s' with toks := s'.toks + 1 }) (strKind_is _ _ _ _) rfl hS1 room1 fun h' same hS2 => ?_
    have ex : xs.take (i + 1) = xs.take i ++ [xs.getD i Str.empty] := by
      rw [List.take_succ, List.getD_eq_getElem?_getD, List.getElem?_eq_getElem (by omega)]
      rfl
    have hS3 : h'.SetOf (PySem.strKind prog w) S (fun k' => (dis (xs.take (i + 1))).any (· == k')) (dis (xs.take (i + 1))).length := by
      rw [ex, dis_snoc]
      generalize dis (xs.take i) = acc at hS2
      generalize xs.getD i Str.empty = x at hS2
      refine SetOf_congr hS2 (fun k' => ?_) ?_
      · unfold disS
        by_cases h : acc.any (· == x) = true
        · rw [if_pos h]
          by_cases e : k' = x
          · subst e; rw [h]; rfl
          · rw [decide_eq_false e, Bool.or_false]
        · rw [if_neg h, List.any_append]
          congr 1
          by_cases e : k' = x
          · subst e; simp
          · have : (x == k') = false := by simpa [beq_iff_eq] using fun z : x = k' => e z.symm
            simp [this, e]
      · unfold disS
        by_cases h : acc.any (· == x) = true
        · rw [if_pos h, if_pos h]
        · rw [if_neg h, if_neg h]; simp
    refine wpAny_pure ⟨plainId_quiet F.plain_set_update_loop _, ih (i + 1) _ (by omega) lt (W.frame _ s' _ _ st2 (Nat.le_succ _) fun b hb o e => ?_) hS3 fun s2 mv2 hS4 => ?_⟩
    · rw [same.2 b (fun h : b = S => off (by rw [← h]; exact hb))]; exact e
    · refine fin s2 (Moved.trans W.gtrans ((mv.mono more).then_heap (Nat.le_succ _) fun b o hb e => ?_) mv2) hS4
      rw [same.2 b (fun h : b = S => hb (by rw [h]; exact List.mem_cons_self))]; exact e
end
section
variable {prog : Program} {w : World} {A : Around} {E : Value → Shared → Prop} {s : Shared}
theorem set_texts {l : Addr} {items : Array Value} {xs : List Str} {Q : Value → Shared → Prop}
    (hh : A.handled = none) (hl : s.heap.IsList l items) (hi : PyProof.Rows.StrsAre items.toList xs) (room : xs.length + 1 < scanBound)
    (h : ∀ (h' : Heap) (tk : Nat), h'.SetOf (PySem.strKind prog w) s.heap.objs.size (fun k' => (dis xs).any (· == k')) (dis xs).length →
      (∀ b o, b < s.heap.objs.size → s.heap.get? b = some o → h'.get? b = some o) → Q (.ref s.heap.objs.size) { s with heap := h', toks := tk }) :
    wpAny (model prog w) A (call (.type "set") [.ref l]) Q E s := by
  obtain ⟨c, tl, zmro⟩ := PySem.F.called_set.mro
  have zmade := PySem.F.called_set.made
  have zsub := PySem.F.called_set.sub
  refine wpAny_call (codeAny_of_tree ?_)
  show wpAny _ _ (callAny (.type "set") _) _ _ _
  refine wpAny_pure ⟨Code.quiet_builtin _ (by decide +kernel), codeAny_builtin PySem.F.entry_type_call ?_⟩
  rw [Around.under_plain (weight_type_call_type "set" [.ref l] []) rfl]
  have z1 := PySem.F.called_set.notType
  have z2 := PySem.F.called_set.canCreate
  have zct := PySem.F.typeCall_set_1 (.ref l)
  repeat (any_goals (first | assumption | wp_step))

  refine codeAny_mono (code_set_new_1 (.ref l) (E := E) (Q₁ := fun obj s₁ => ∃ led : Bool, obj = .ref s.heap.objs.size ∧ s₁ = { s with heap := s.heap.push { cls := .type "set", dict := none, data := .set #[] 0 (.fresh 0 0 led) } }) fun led => ⟨led, rfl, rfl⟩) fun r s₁ zr => ?_
  cases r with
  | error e => exact zr
  | ok fl =>
    cases fl with
    | ret obj =>
      obtain ⟨led, rfl, rfl⟩ := zr
      have zS : (s.heap.push { cls := .type "set", dict := none, data := .set #[] 0 (.fresh 0 0 led) }).get? s.heap.objs.size = some { cls := .type "set", dict := none, data := .set #[] 0 (.fresh 0 0 led) } := Heap.get?_push_size _ rfl
      have zT : Shared.TypeIs { s with heap := s.heap.push { cls := .type "set", dict := none, data := .set #[] 0 (.fresh 0 0 led) } } (.ref s.heap.objs.size) "set" := ⟨_, zS, rfl⟩
      have zli := PySem.F.called_set.init.lookup
      have zbi := PySem.F.called_set.init.bind (.ref s.heap.objs.size)
      repeat (any_goals (first | assumption | wp_step))

      refine codeAny_mono (codeAny_call_builtin (R := wants (fun r s₂ => r = .none ∧ ∃ h' tk, s₂ = { s with heap := h', toks := tk } ∧
          h'.SetOf (PySem.strKind prog w) s.heap.objs.size (fun k' => (dis xs).any (· == k')) (dis xs).length ∧
          (∀ b o, b < s.heap.objs.size → s.heap.get? b = some o → h'.get? b = some o)) E) PySem.F.called_set.init.plain PySem.F.entry_set_init (check_set_init_1 zT ?_)) fun r₂ s₂ zr₂ => ?_
      · obtain ⟨ol, zol, zcl, nl, zdl⟩ := hl
        obtain ⟨ocls, odict, odata, oslots⟩ := ol
        simp only at zcl zdl
        subst zcl; subst zdl
        have zol' : (s.heap.push { cls := .type "set", dict := none, data := .set #[] 0 (.fresh 0 0 led) }).get? l = some { cls := .type "list", dict := odict, data := .seq items nl, slots := oslots } := Heap.get?_push_of_some _ zol
        have zsls := PySem.F.sub_list_set
        have zslf := PySem.F.sub_list_frozenset
        have zne : (Value.type "list" == Value.type "dict") = false := by decide
        have zl1 : (s.heap.push { cls := .type "set", dict := none, data := .set #[] 0 (.fresh 0 0 led) }).IsList l items := ⟨_, zol', rfl, nl, rfl⟩
        unfold Builtin.«set.__init__» noKeywords Builtin.Frozenset.updateFrom
        generalize zPI : pyIter = PI
        wp_walk
        subst zPI

        refine wpAny_pyIter_list zl1 ?_
        refine wpAny_bind (wpAny_runValue ?_)
        have zlS : l < s.heap.objs.size := Heap.lt_size zol
        have zh3 : A.in1.in1.in1.handled = none := by simp [hh]
        have zneI : l ≠ (s.heap.push { cls := .type "set", dict := none, data := .set #[] 0 (.fresh 0 0 led) }).objs.size := by
          rw [Heap.size_push]; exact Nat.ne_of_lt (Nat.lt_succ_of_lt zlS)
        have zSf : s.heap.objs.size ∉ [(s.heap.push { cls := .type "set", dict := none, data := .set #[] 0 (.fresh 0 0 led) }).objs.size, l] := by
          rw [Heap.size_push]; simp only [List.mem_cons, List.mem_singleton, List.not_mem_nil, or_false, not_or]
          exact ⟨Nat.ne_of_lt (Nat.lt_succ_self _), Nat.ne_of_gt zlS⟩
        have zsz : xs.length = items.size := by rw [← StrsAre.len_eq hi, Array.length_toList]
        have zval : ∀ (i : Nat) (v : Value), items[i]? = some v → ∃ t, v = .str (xs.getD i Str.empty) t := fun i v hv => SS.strs_at hi i v (by rw [Array.getElem?_toList]; exact hv)
        refine loopTxt ((Walks.list zh3 _ l zneI items).toS) s.heap.objs.size
          zSf xs zsz zval (by rw [← zsz]; exact room) (items.size - 0) 0 _ (by omega) (Nat.zero_le _)
          ⟨⟨_, Heap.get?_push_size _ rfl, rfl, rfl⟩, (zl1.push _)⟩ ?zS0 ?hR
        case zS0 =>
          have zget : ((s.heap.push { cls := .type "set", dict := none, data := .set #[] 0 (.fresh 0 0 led) }).push { cls := .type "list_iterator", data := .fields #[.ref l, .int 0 0] }).get? s.heap.objs.size
              = some { cls := .type "set", dict := none, data := .set #[] 0 (.fresh 0 0 led) } := Heap.get?_push_of_some _ zS
          exact PyProof.Rows.SetOf_congr ((PyProof.Rows.setObjOf_fresh (knd := PySem.strKind prog w) led).setOf zget (by unfold scanBound; omega)) (fun _ => rfl) rfl
        case hR =>
          intro s' hm zS'
          obtain ⟨h', g', d', tk', os'⟩ := s'
          have eg : g' = s.gens := hm.gens
          have ed : d' = s.drawn := hm.drawn
          have eo : os' = s.os := hm.os
          subst eg; subst ed; subst eo
          show wpAny _ _ _ _ _ _
          refine wpAny_pure ?_
          show wpAny _ _ (ret Value.none) _ _ _
          refine wpAny_pure ⟨rfl, h', tk', rfl, zS', fun b o hb e => ?_⟩
          have zb1 : b ≠ s.heap.objs.size := Nat.ne_of_lt hb
          have zb2 : b ≠ (s.heap.push { cls := .type "set", dict := none, data := .set #[] 0 (.fresh 0 0 led) }).objs.size := by
            rw [Heap.size_push]; exact Nat.ne_of_lt (Nat.lt_succ_of_lt hb)
          exact hm.heap b o (by simp only [List.mem_cons, List.mem_singleton, List.not_mem_nil, or_false, not_or]; exact ⟨zb1, zb2⟩) (Heap.get?_push_of_some _ (Heap.get?_push_of_some _ e))

      · cases r₂ with
        | error e => exact zr₂
        | ok fl₂ =>
          cases fl₂ with
          | ret r =>
            obtain ⟨rfl, h', tk, rfl, zS', zk'⟩ := zr₂
            repeat (any_goals (first | assumption | wp_step))
            exact h _ _ zS' zk'
          | _ => exact zr₂.elim
    | _ => exact zr.elim
end
section
variable {X : Cx} {W : XW}
def rLenSetT (K : PySem.W.Frag) (x : V) (H : Hp) (Q : VK) : Prop := ∃ (l : Addr) (xs : List Str), x = .ref l ∧ SqL K H l (xs.map V.str) ∧ xs.length + 1 < scanBound ∧ xs.length ≤ 1000000 ∧ Q (.int (dis xs).length) H
theorem pe_lenSetT {a : Expr} {ta : TE} {p p2 q pos : Pos} (calm : X.calm = true) (gl : Gl X "len") (nm : X.mg "len" = none) (gl2 : Gl X "set") (nm2 : X.mg "set" = none) (ha : PE X a ta)
    (na : starEach [a] X.env = (false, eval a X.env) :: starEach [] X.env := by rfl) : PE X (.Call (.Name "len" p) [.Call (.Name "set" p2) [a] [] q] [] pos) (fun σ H Q => ta σ H fun x H1 => rLenSetT X.K x H1 Q) := by
  refine ⟨fun pins s σ H Q I h => ?_⟩
  refine Call_ (ld_blt I gl nm boot_len ?_)
  refine callWith_builtin1 (args_cons ?_ rfl) rfl rfl
  refine Call_ (ld_blt I gl2 nm2 boot_set ?_)
  refine callWith_type1 (args_cons (thn (ha.run pins s σ H _ I h) fun v t1 ⟨x, G, J, r1, fin⟩ => args_nil ?_) na) na rfl
  obtain ⟨l, xs, rfl, hq, room, hz, fin⟩ := fin
  cases r1
  obtain ⟨its, r, pl, _⟩ := J.list hq
  refine set_texts (J.ok.hd calm) pl.isList (by simpa using strsAre_of r) room fun h' tk hS hk => ?_
  refine args_nil ?_
  obtain ⟨o, es, ep, t, ho, hex, hd, _, _, _, hf, hn⟩ := hS
  have J2 : Inv X pins σ G { t1 with heap := h', toks := tk } := J.kept fun b o e => hk b o (Heap.lt_size e) e
  have := dis_le xs
  refine call_len_set ho hex hd hf (by rw [hn] <;> omega) ⟨.int (dis xs).length, G, J2.tok _, ⟨_, by rw [hn]⟩, fin⟩
def gLenSet : List PyData → Option Out
  | [.list l] => (strs? l).bind fun ks => if ks.length ≤ 4000 then some (.sh (.int ((dis ks).length : Nat))) else none
  | _ => none
theorem i_lenSet {K : PySem.W.Frag} : Impl K (L1r fun x H Q => rLenSetT K x H Q) gLenSet := by
  intro N H vs ds o Q h g q
  unfold gLenSet at g
  split at g
  · rename_i l
    obtain ⟨v, rfl, h1⟩ := h.one
    rw [Option.bind_eq_some_iff] at g
    obtain ⟨ks, e, g⟩ := g
    split at g
    · rename_i hz
      cases g
      obtain ⟨a, xs, rfl, e1, r1⟩ := h1.list
      have e2 := strs_ra e r1
      subst e2
      exact ⟨a, ks, rfl, e1.sq, by unfold scanBound; omega, by omega, q _ _ (.refl _) (.int _)⟩
    · cases g
  · cases g
theorem d_lenSet {a : Expr} {m : M Sl} {p p2 q pos : Pos} (calm : X.calm = true) (gl : Gl X "len") (nm : X.mg "len" = none) (gl2 : Gl X "set") (nm2 : X.mg "set" = none) (ha : PE X a (tV X.K W m))
    (na : starEach [a] X.env = (false, eval a X.env) :: starEach [] X.env := by rfl) : PE X (.Call (.Name "len" p) [.Call (.Name "set" p2) [a] [] q] [] pos) (tV X.K W (mUn gLenSet m)) :=
  PE.imp (pe_lenSetT calm gl nm gl2 nm2 ha na) fun σ H Q ⟨Γ, δ, γ, r, p⟩ => ⟨Γ, δ, γ, r, (Post.bind p).imp fun x δ1 p1 v H1 r1 =>
    run_op i_lenSet (vs := [v]) (rs := [x]) (γ' := γ) r1 (fun e m => by
      rcases List.mem_cons.mp m with rfl | m
      · exact List.mem_cons_self
      · cases m) rfl (p1.imp fun s δ' k v' H'' r' => k v' H'' (drop1 (γ₀ := [(some v, x)]) r'))⟩
end
end DL

set_option Elab.async false
set_option linter.all false
set_option maxRecDepth 100000
set_option maxHeartbeats 1000000
namespace DL
open PySem PySem.Spec PyProof.Rows L2
/-! ### a call that is lent what it reads -/
mutual
def flatR : PyData → Bool
  | .tuple l => flatL l
  | .list _ => false
  | .dict _ => false
  | .none => true
  | .bool _ => true
  | .int _ => true
  | .str _ => true
def flatL : List PyData → Bool
  | [] => true
  | d :: r => flatR d && flatL r
end
@[simp] theorem flatR_tup (l : List PyData) : flatR (.tuple l) = flatL l := by unfold flatR; rfl
@[simp] theorem flatL_nil : flatL [] = true := by unfold flatL; rfl
@[simp] theorem flatL_cons (d : PyData) (r : List PyData) : flatL (d :: r) = (flatR d && flatL r) := by rw [flatL]
@[simp] theorem flatR_non : flatR .none = true := by unfold flatR; rfl
@[simp] theorem flatR_bl (b : Bool) : flatR (.bool b) = true := by unfold flatR; rfl
theorem flatL_map {α : Type} {f : α → PyData} {l : List α} (h : ∀ x ∈ l, flatR (f x) = true) : flatL (l.map f) = true := by
  induction l with
  | nil => exact flatL_nil
  | cons x l ih => rw [List.map_cons, flatL_cons, h x (by simp), ih fun y m => h y (by simp [m])]; rfl
section
variable {K : PySem.W.Frag} {N N' : Addr → Prop} {H : Hp}
theorem flat_any {v : V} {d : PyData} (h : R K N H v d) (f : flatD d = true) : R K N' H v d := by
  cases h with
  | non => exact .non
  | bl b => exact .bl b
  | int i => exact .int i
  | str x => exact .str x
  | _ => cases f
theorem flats_any : ∀ {vs : List V} {ds : List PyData}, RA K N H vs ds → ds.all flatD = true → RA K N' H vs ds
  | _, _, .nil, _ => .nil
  | _, _, .cons h r, f => by
    rw [List.all_cons, Bool.and_eq_true] at f
    exact .cons (flat_any h f.1) (flats_any r f.2)
mutual
theorem flatR_any : ∀ {v : V} {d : PyData}, R K N H v d → flatR d = true → R K N' H v d
  | _, _, .non, _ => .non
  | _, _, .bl b, _ => .bl b
  | _, _, .int i, _ => .int i
  | _, _, .str x, _ => .str x
  | _, _, .lst _ _ _, f => by unfold flatR at f; cases f
  | _, _, .lstK _ _, f => by unfold flatR at f; cases f
  | _, _, .tup e r k, f => by rw [flatR_tup] at f; exact .tup e (flatL_any r f) k
  | _, _, .tupX e o r k, f => by rw [flatR_tup] at f; exact .tupX e o (flatL_any r f) k
  | _, _, .exc _ _, f => by unfold flatR at f; cases f
  | _, _, .dk _ _ _, f => by unfold flatR at f; cases f
  | _, _, .dt _ _ _, f => by unfold flatR at f; cases f
theorem flatL_any : ∀ {vs : List V} {ds : List PyData}, RA K N H vs ds → flatL ds = true → RA K N' H vs ds
  | _, _, .nil, _ => .nil
  | _, _, .cons h r, f => by
    rw [flatL_cons, Bool.and_eq_true] at f
    exact .cons (flatR_any h f.1) (flatL_any r f.2)
end
theorem Top.lend {v : V} {d : PyData} (h : Top K N H v d) : R K (fun _ => True) H v d := by
  cases h with
  | val r => exact r.mono (fun _ _ _ => True.intro) (fun _ _ h _ => h) fun _ _ _ h => h
  | own c => exact (c.mono (N' := fun _ => True) (fun _ _ _ => True.intro) (fun _ _ h _ => h) (fun _ _ _ h => h) fun _ h => h).val True.intro
theorem TopA.lend : ∀ {vs : List V} {ds : List PyData}, TopA K N H vs ds → RA K (fun _ => True) H vs ds
  | _, _, .nil => .nil
  | _, _, .cons h r => .cons h.lend (TopA.lend r)
end
def callF (F : List PyData → FRes) (rs : List Sl) : M Sl := fun δ => match dats δ rs with
  | some ds => match F ds with
    | .ok (.sh d) none => if flatR d = true then .ok (.sh d) δ else .no
    | .er e => if e.val.isNone = true then .er e δ else .no
    | _ => .no
  | none => .no
section
variable {X : Cx} {W : XW} {pos : Pos}
theorem d_callF {x : Str} {p : Pos} {f : Addr} {fd : FuncData} {k : Nat} {ps : List Str} {cl : Str → Value} {F : List PyData → FRes} {e : Expr} {es : List Expr} {ms : M (List Sl)} (G : FnOk X.prog X.w X.K X.mg X.base (L2.CX X.prog X.w) k f fd ps (spP X.K cl F)) (hr : Room k X.A) (hg : Gl X x) (hm : X.mg x = some (.ref f)) (hk : PySem.W.keepIn X.K (.ref f) = true)
    (hb : Binds X.K fd ps []) (hx : ∀ σ, PassesAt (L2.CX X.prog X.w) X σ (EW cl W σ)) (ha : PA X (e :: es) (tAs X.K W ms))
    (hdb : (x == ("__debug__" : Str)) = false := by decide) (he : starEach (e :: es) X.env = (false, eval e X.env) :: starEach es X.env := by rfl) (hpl : (backTo pos (starEach es X.env)).any (·.1) = false := by rfl) :
    PE X (.Call (.Name x p) (e :: es) [] pos) (tV X.K W (ms >>= callF F)) :=
  PE.imp (pe_callSD G hr hg hm hk hb .nil hx ha hdb he hpl) fun σ H Q ⟨Γ, δ, γ, r, p⟩ => ⟨Γ, δ, γ, r, (Post.bind p).imp fun rs δ1 p1 vs H1 hl r1 => by
    unfold callF at p1
    cases h1 : dats δ1 rs with
    | none => simp only [h1] at p1; exact p1.elim
    | some ds =>
      simp only [h1] at p1
      have ta := r1.tops (fun e m => List.mem_append_left _ m) hl h1
      have rp := r1.popN
      rw [List.append_nil]
      refine ⟨fun a => True ∧ nt X.K a, ds, ⟨fun p z => ⟨True.intro, rp.rel.nb _ (rp.rel.fresh p z)⟩, fun a n => n.2, rp.rel.tb⟩, ta.lend.ntB rp.rel.tb, ?_⟩
      cases h2 : F ds with
      | ok rr out =>
        cases out with
        | none =>
          simp only [h2] at p1
          cases rr with
          | sh d =>
            simp only at p1
            by_cases hf : flatR d = true
            · rw [if_pos hf] at p1
              exact fun v H' sm ok => p1 v H' (rp.res (s := .sh d) sm (flatR_any ok hf))
            · rw [if_neg hf] at p1; exact p1.elim
          | _ => exact p1.elim
        | some o => simp only [h2] at p1; cases rr <;> exact p1.elim
      | er ex =>
        simp only [h2] at p1
        by_cases hv : ex.val.isNone = true
        · rw [if_pos hv] at p1
          have hv2 : ex.val = none := Option.isNone_iff_eq_none.mp hv
          exact ⟨hv2, fun H' sm => ⟨ex, hv2, rfl, rfl, p1 H' (rp.sameD sm)⟩⟩
        · rw [if_neg hv] at p1; exact p1.elim
      | no => simp only [h2] at p1; exact p1.elim⟩
end
section
variable {Q : Sl → List Sl → Prop} {δ : List Sl} {ms : M (List Sl)}
@[simp] theorem dats_nil : dats δ [] = some [] := id rfl
@[simp] theorem dats_cons (s : Sl) (r : List Sl) : dats δ (s :: r) = match datS δ s, dats δ r with
  | some d, some ds => some (d :: ds)
  | _, _ => none := id rfl
/-- the answer, if flat -/
def lentOk (Q : Sl → List Sl → Prop) (δ : List Sl) (r : Sl) : Prop := match r with
  | .sh d => flatR d = true ∧ Q (.sh d) δ
  | _ => False
@[simp] theorem lentOk_sh {d : PyData} : lentOk Q δ (.sh d) = (flatR d = true ∧ Q (.sh d) δ) := id rfl
@[simp ↓] theorem wM_callF (F : List PyData → FRes) : wM ((ms >>= callF F) δ) Q = wM (ms δ) fun rs δ1 => match dats δ1 rs with
  | some ds => wF (F ds) fun r => lentOk Q δ1 r
  | none => False := by
  refine wM_b fun rs δ1 => ?_
  unfold callF
  cases dats δ1 rs with
  | none => exact wM_no
  | some ds =>
    show wM (match F ds with
      | .ok (.sh d) none => if flatR d = true then .ok (.sh d) δ1 else .no
      | .er e => if e.val.isNone = true then .er e δ1 else .no
      | _ => .no) Q = wF (F ds) fun r => lentOk Q δ1 r
    cases F ds with
    | ok r o =>
      cases o with
      | none =>
        rw [wF_okn]
        cases r with
        | sh d =>
          show wM (if flatR d = true then .ok (.sh d) δ1 else .no) Q = (flatR d = true ∧ Q (.sh d) δ1)
          by_cases h : flatR d = true
          · rw [if_pos h, wM_ok]; exact propext ⟨fun q => ⟨h, q⟩, fun q => q.2⟩
          · rw [if_neg h, wM_no]; exact propext ⟨False.elim, fun q => h q.1⟩
        | _ => exact wM_no
      | some d => rw [wF_oks]; cases r <;> exact wM_no
    | er e =>
      rw [wF_er]
      show wM (if e.val.isNone = true then .er e δ1 else .no) Q = False
      by_cases h : e.val.isNone = true
      · rw [if_pos h]; exact wM_er
      · rw [if_neg h]; exact wM_no
    | no => rw [wF_no]; exact wM_no
end
section
variable {Q : Sl → List Sl → Prop} {δ : List Sl} {m : M Sl} {ms : M (List Sl)}
@[simp ↓] theorem wM_methS {g : List PyData → Option Out} : wM (mMeth "str" g m ms δ) Q = wM (m δ) fun x δ1 => (match datS δ1 x with
  | some (.str _) => True
  | _ => False) ∧ wM (ms δ1) fun rs δ2 => wM (opM g (x :: rs) δ2) Q := by
  unfold mMeth
  refine wM_b fun x δ1 => ?_
  refine (wM_bind _ _ _ _).trans ?_
  unfold chkT
  cases h : datS δ1 x with
  | none => simp [wM_no]
  | some d =>
    cases d <;> simp [tyD, wM_no, wM_ok, wM_bind]
@[simp ↓] theorem wg_split {a b : Str} : wG (gSplit [.str a, .str b]) δ Q = (((b.length == 0) = false ∧ a.length ≤ 1000000) ∧ Q (.ow (.list ((Txt.split a b).map .str))) δ) := wG_if
end
section
variable {m : M Sl} {t : M Bool} {g : GM} {vs : List Nat} {Q : List PyData → List Sl → Prop}
/-- a comprehension with what holds before each turn -/
theorem wL_inv (I : List PyData → List PyData → List Sl → Prop) (hs : ∀ d r acc δ, I (d :: r) acc δ → acc.length < 1000000 ∧ wO (g (.sh d) δ) fun δ1 => wM (t δ1) fun b δ2 => (b = true → wM (m δ2) fun s δ3 => match esc s with
      | some y => I r (acc ++ [y]) (wipeD δ3 vs)
      | none => False) ∧ (b = false → I r acc (wipeD δ2 vs))) : ∀ (items acc : List PyData) (δ : List Sl), I items acc δ → (∀ acc δ, I [] acc δ → Q acc δ) → wM (lcL g t m vs items acc δ) Q
  | [], acc, δ, h, q => by rw [wL_nil]; exact q acc δ h
  | d :: r, acc, δ, h, q => by
    rw [wL_cons]
    obtain ⟨hz, h1⟩ := hs d r acc δ h
    refine h1.mono fun δ1 h2 => h2.mono fun b δ2 h3 => ⟨fun hb => (h3.1 hb).mono fun s δ3 h4 => ?_, fun hb => wL_inv I hs r acc _ (h3.2 hb) q⟩
    cases he : esc s with
    | none => rw [he] at h4; exact h4.elim
    | some y => rw [he] at h4; exact ⟨hz, wL_inv I hs r _ _ h4 q⟩
end
end DL

set_option Elab.async false
set_option linter.all false
set_option maxRecDepth 100000
set_option maxHeartbeats 1000000
namespace DL
open PySem PySem.Spec PyProof.Rows L2
/-! ### typed readings of comprehensions and loops -/
section
variable {α β : Type} {δ : List Sl} {m : M Sl} {t : M Bool} {g : GM} {vs : List Nat} {Q : List PyData → List Sl → Prop}
theorem wL_mapT (en : α → PyData) (l : List α) (p : α → Bool) (f : α → PyData) (hz : l.length ≤ 1000000)
    (h : ∀ x ∈ l, wO (g (.sh (en x)) δ) fun δ1 => wM (t δ1) fun b δ2 => b = p x ∧ (b = true → wM (m δ2) fun s δ3 => esc s = some (f x) ∧ wipeD δ3 vs = δ) ∧ (b = false → wipeD δ2 vs = δ))
    (q : Q ((l.filter p).map f) δ) : wM (lcL g t m vs (l.map en) [] δ) Q := by
  have go : ∀ (l : List α) (acc : List PyData), l.length + acc.length ≤ 1000000 →
      (∀ x ∈ l, wO (g (.sh (en x)) δ) fun δ1 => wM (t δ1) fun b δ2 => b = p x ∧ (b = true → wM (m δ2) fun s δ3 => esc s = some (f x) ∧ wipeD δ3 vs = δ) ∧ (b = false → wipeD δ2 vs = δ)) →
      Q (acc ++ (l.filter p).map f) δ → wM (lcL g t m vs (l.map en) acc δ) Q := by
    intro l
    induction l with
    | nil => intro acc _ _ q; rw [List.map_nil, wL_nil]; simpa using q
    | cons d r ih =>
      intro acc hz h q
      rw [List.map_cons, wL_cons]
      simp only [List.length_cons] at hz
      refine (h d List.mem_cons_self).mono fun δ1 h1 => h1.mono fun b δ2 h2 => ⟨fun hb => ?_, fun hb => ?_⟩
      · refine (h2.2.1 hb).mono fun s δ3 h3 => ?_
        rw [h3.1]
        dsimp only
        refine ⟨by omega, ?_⟩
        rw [h3.2]
        refine ih _ (by simp; omega) (fun x hx => h x (List.mem_cons_of_mem _ hx)) ?_
        have : p d = true := by rw [← h2.1, hb]
        simpa [List.filter_cons, this] using q
      · rw [h2.2.2 hb]
        refine ih _ (by omega) (fun x hx => h x (List.mem_cons_of_mem _ hx)) ?_
        have : p d = false := by rw [← h2.1, hb]
        simpa [List.filter_cons, this] using q
  exact go l [] (by simpa using hz) h (by simpa using q)
/-- without a test -/
theorem wL_mapU (en : α → PyData) (l : List α) (f : α → PyData) (hz : l.length ≤ 1000000)
    (h : ∀ x ∈ l, wO (g (.sh (en x)) δ) fun δ1 => wM (m δ1) fun s δ3 => esc s = some (f x) ∧ wipeD δ3 vs = δ)
    (q : Q (l.map f) δ) : wM (lcL g yesM m vs (l.map en) [] δ) Q :=
  wL_mapT en l (fun _ => true) f hz (fun x hx => (h x hx).mono fun δ1 h1 => by
    rw [wM_yes]
    exact ⟨rfl, fun _ => h1, fun z => nomatch z⟩) (by rw [List.filter_eq_self.mpr (fun _ _ => rfl)]; exact q)
end
section
variable {α β : Type} {g : GM} {s : SM} {N : List Sl → Prop} {T : Sl → List Sl → Prop} {B C : List Sl → Prop} {δ : List Sl}
/-- a loop over l, what is told being a fold -/
theorem wS_fold (en : α → PyData) (l : List α) (E : β → List Sl → Prop) (st : β → α → β) (b0 : β)
    (h : ∀ b, ∀ x ∈ l, ∀ δ, E b δ → wO (g (.sh (en x)) δ) fun δ1 => wS (s δ1) (E (st b x)) T N (E (st b x)))
    (h0 : E b0 δ) (he : ∀ δ, E (l.foldl st b0) δ → N δ) : wS (forL g s (l.map en) δ) N T B C := by
  induction l generalizing b0 δ with
  | nil => rw [List.map_nil, wS_fnil]; exact he δ h0
  | cons x r ih =>
    rw [List.map_cons, wS_fcons]
    refine (h b0 x List.mem_cons_self δ h0).mono fun δ1 q => q.mono (fun δ2 q2 => ?_) (fun _ _ h => h) (fun _ h => h) fun δ2 q2 => ?_
    · exact ih (st b0 x) (fun b y hy => h b y (List.mem_cons_of_mem _ hy)) q2 he
    · exact ih (st b0 x) (fun b y hy => h b y (List.mem_cons_of_mem _ hy)) q2 he
/-- a loop over l, by what holds behind each part of it -/
theorem wS_pre (en : α → PyData) (l : List α) (I : List α → List Sl → Prop)
    (h : ∀ u x v, l = u ++ x :: v → ∀ δ, I u δ → wO (g (.sh (en x)) δ) fun δ1 => wS (s δ1) (I (u ++ [x])) T N (I (u ++ [x])))
    (h0 : I [] δ) (he : ∀ δ, I l δ → N δ) : wS (forL g s (l.map en) δ) N T B C := by
  have go : ∀ (v u : List α) (δ : List Sl), l = u ++ v → I u δ → wS (forL g s (v.map en) δ) N T B C := by
    intro v
    induction v with
    | nil => intro u δ e i; rw [List.map_nil, wS_fnil]; rw [List.append_nil] at e; subst e; exact he δ i
    | cons x r ih =>
      intro u δ e i
      rw [List.map_cons, wS_fcons]
      refine (h u x r e δ i).mono fun δ1 q => q.mono (fun δ2 q2 => ?_) (fun _ _ h => h) (fun _ h => h) fun δ2 q2 => ?_
      · exact ih (u ++ [x]) δ2 (by rw [e]; simp) q2
      · exact ih (u ++ [x]) δ2 (by rw [e]; simp) q2
  exact go l [] δ rfl h0
end
theorem wF_eq {x : FRes} {r : Sl} (h : x = .ok r none) (Q : Sl → Prop) : wF x Q = Q r := by rw [h]; exact wF_okn
theorem wF_of {x : FRes} {r : Sl} {Q : Sl → Prop} (h : x = .ok r none) (q : Q r) : wF x Q := by rw [wF_eq h]; exact q
theorem wF_get {x : FRes} {Q : Sl → Prop} (h : wF x Q) : ∃ r, x = .ok r none ∧ Q r := by
  obtain ⟨r, e, q⟩ := h
  exact ⟨r, e, q⟩
theorem gIn_list (neg : Bool) (x : PyData) (l : List PyData) : gIn neg [x, .list l] = if flatD x = true ∧ l.all flatD = true then some (.sh (.bool (if neg then !inD x l else inD x l))) else none := by
  cases x with
  | str s =>
    obtain ⟨⟨cs⟩⟩ := s
    rcases cs with _ | ⟨c, _ | ⟨d, r⟩⟩ <;> rfl
  | _ => rfl
theorem gIn_tuple (neg : Bool) (x : PyData) (l : List PyData) : gIn neg [x, .tuple l] = if flatD x = true ∧ l.all flatD = true then some (.sh (.bool (if neg then !inD x l else inD x l))) else none := by
  cases x with
  | str s =>
    obtain ⟨⟨cs⟩⟩ := s
    rcases cs with _ | ⟨c, _ | ⟨d, r⟩⟩ <;> rfl
  | _ => rfl
theorem inD_strs {a : Str} : ∀ l : List Str, inD (.str a) (l.map .str) = decide (a ∈ l)
  | [] => rfl
  | z :: r => by
    have q := inD_strs (a := a) r
    unfold inD inV at q ⊢
    simp only [List.map_cons, List.any_cons, q]
    show (eqV (.str z) (.str a) || _) = _
    have : eqV (.str z) (.str a) = decide (a = z) := by
      show (z == a) = decide (a = z)
      by_cases h : a = z
      · subst h; simp
      · simp [h, Ne.symm h]
    rw [this]
    by_cases h : a = z <;> by_cases h2 : a ∈ r <;> simp [h, h2]
theorem flat_strs : ∀ l : List Str, (l.map PyData.str).all flatD = true
  | [] => rfl
  | z :: r => by simp [flatD]
section
variable {δ : List Sl} {Q : Sl → List Sl → Prop} {a : Str} {n : List Str}
@[simp ↓] theorem wg_inS : wG (gIn false [.str a, .list (n.map .str)]) δ Q = Q (.sh (.bool (decide (a ∈ n)))) δ := by
  rw [gIn_list, if_pos ⟨rfl, flat_strs n⟩, inD_strs]
  exact wG_some
@[simp ↓] theorem wg_ninS : wG (gIn true [.str a, .list (n.map .str)]) δ Q = Q (.sh (.bool (!decide (a ∈ n)))) δ := by
  rw [gIn_list, if_pos ⟨rfl, flat_strs n⟩, inD_strs]
  exact wG_some
@[simp ↓] theorem wg_inSt : wG (gIn false [.str a, .tuple (n.map .str)]) δ Q = Q (.sh (.bool (decide (a ∈ n)))) δ := by
  rw [gIn_tuple, if_pos ⟨rfl, flat_strs n⟩, inD_strs]
  exact wG_some
@[simp ↓] theorem wg_ninSt : wG (gIn true [.str a, .tuple (n.map .str)]) δ Q = Q (.sh (.bool (!decide (a ∈ n)))) δ := by
  rw [gIn_tuple, if_pos ⟨rfl, flat_strs n⟩, inD_strs]
  exact wG_some
end
/-- sums, as they stand -/
@[simp] theorem ints_mapD {α : Type} (f : α → Int) (l : List α) : ints? (l.map fun x => PyData.int (f x)) = some (l.map f) := by
  have : (l.map fun x => PyData.int (f x)) = (l.map f).map .int := by rw [List.map_map]; rfl
  rw [this, DL.ints_of]
end DL

set_option Elab.async false
set_option linter.all false
set_option maxRecDepth 100000
set_option maxHeartbeats 1000000
namespace DL
open PySem PySem.Spec PyProof.Rows L2
/-! ### a local that is handed back: what it owns goes along -/
def takeM (i : Nat) : M Sl := fun δ => match δ[i]? with
  | some (.sh d) => .ok (.sh d) δ
  | some (.ow d) => .ok (.ow d) (δ.set i .no)
  | some (.raw v) => .ok (.raw v) δ
  | _ => .no
section
variable {K : PySem.W.Frag} {Γ : Gm} {σ : L2.St} {δ : List Sl} {γ : List Ent} {H : Hp}
theorem take_at {i : Nat} {d : PyData} (r : RS K Γ σ δ γ H) (h : δ[i]? = some (.ow d)) : ∃ v, σ[i]? = some (some v) ∧ RS K Γ σ (δ.set i .no) ((some v, .ow d) :: γ) H := by
  obtain ⟨o, h1, h2⟩ := r.take h
  obtain ⟨p, e1, _⟩ := h2.rel.each _ (List.mem_append_right _ List.mem_cons_self)
  have e2 : o = some (.ref p) := e1
  subst e2
  exact ⟨_, h1, h2⟩
end
section
variable {X : Cx} {W : XW}
theorem pv_take (i : Nat) {x : Str} {pos : Pos} (hN : X.N[i]? = some x := by rfl) (hv : Vis X.env.scope x := by first | exact Or.inl rfl | exact Or.inr (Or.inl rfl) | exact Or.inr (Or.inr rfl)) (hd : (x == ("__debug__" : Str)) = false := by decide)
    (hcd : (x == ("__classdict__" : Str)) = false := by decide) : PE X (.Name x pos) (tV X.K W (takeM i)) := PE.imp (pe_var hN hv hd hcd) fun σ H Q ⟨Γ, δ, γ, r, p⟩ => by
  unfold takeM at p
  cases h : δ[i]? with
  | none => rw [h] at p; exact p.elim
  | some s =>
    rw [h] at p
    cases s with
    | sh d => obtain ⟨v, e, r'⟩ := sh_at r h; exact ⟨v, e, p v H r'⟩
    | ow d => obtain ⟨v, e, r'⟩ := take_at r h; exact ⟨v, e, p v H r'⟩
    | raw v => obtain ⟨e, r'⟩ := raw_at r h; exact ⟨v, e, p v H r'⟩
    | no => exact p.elim
    | io k d => exact p.elim
    | al j => exact p.elim
    | fz o kvs => exact p.elim
    | fr ds => exact p.elim
    | clo c ds => exact p.elim
end
section
variable {δ : List Sl} {Q : Sl → List Sl → Prop}
@[simp ↓] theorem wM_take (i : Nat) : wM (takeM i δ) Q = match δ[i]? with
  | some (.sh d) => Q (.sh d) δ
  | some (.ow d) => Q (.ow d) (δ.set i .no)
  | some (.raw v) => Q (.raw v) δ
  | _ => False := by
  cases h : δ[i]? with
  | none => simp [takeM, h, wM_no]
  | some s => cases s <;> simp [takeM, h, wM_no, wM_ok]
end
end DL

set_option Elab.async false
set_option linter.all false
set_option maxRecDepth 100000
set_option maxHeartbeats 1000000
namespace DL
open PySem PySem.Spec PyProof.Rows L2
/-! ### plain data: how deep, alike -/
/-- plain data at most n deep -/
def Sh (n : Nat) (d : PyData) : Prop := d.canLay0 = true ∧ d.depth ≤ n
theorem Sh.mono {n m : Nat} {d : PyData} (h : Sh n d) (k : n ≤ m) : Sh m d := ⟨h.1, Nat.le_trans h.2 k⟩
theorem Sh.non {n : Nat} : Sh n .none := ⟨rfl, by simp [PyData.depth]⟩
theorem Sh.bl {n : Nat} {b : Bool} : Sh n (.bool b) := ⟨rfl, by simp [PyData.depth]⟩
theorem Sh.int {n : Nat} {i : Int} : Sh n (.int i) := ⟨rfl, by simp [PyData.depth]⟩
theorem Sh.str {n : Nat} {x : Str} (h : PyData.strOk x = true) : Sh n (.str x) := ⟨by simpa [PyData.canLay0] using h, by simp [PyData.depth]⟩
theorem sh_all {n : Nat} : ∀ {l : List PyData}, (∀ x ∈ l, Sh n x) → PyData.canLayAll0 l = true ∧ PyData.depthAll l ≤ n
  | [], _ => ⟨rfl, by simp [PyData.depthAll]⟩
  | x :: r, h => by
    obtain ⟨a, b⟩ := sh_all fun y m => h y (List.mem_cons_of_mem _ m)
    obtain ⟨c, d⟩ := h x List.mem_cons_self
    exact ⟨by simp [PyData.canLayAll0, a, c], by simp [PyData.depthAll]; omega⟩
theorem Sh.list {n : Nat} {l : List PyData} (h : ∀ x ∈ l, Sh n x) : Sh (n + 1) (.list l) := by
  obtain ⟨a, b⟩ := sh_all h
  exact ⟨by simpa [PyData.canLay0] using a, by simp [PyData.depth]; omega⟩
theorem Sh.tup {n : Nat} {l : List PyData} (h : ∀ x ∈ l, Sh n x) : Sh (n + 1) (.tuple l) := by
  obtain ⟨a, b⟩ := sh_all h
  exact ⟨by simpa [PyData.canLay0] using a, by simp [PyData.depth]; omega⟩
theorem Sh.listm {α : Type} {n : Nat} {l : List α} {f : α → PyData} (h : ∀ x ∈ l, Sh n (f x)) : Sh (n + 1) (.list (l.map f)) := Sh.list fun y m => by
  obtain ⟨x, mx, rfl⟩ := List.mem_map.mp m
  exact h x mx
theorem Sh.tupm {α : Type} {n : Nat} {l : List α} {f : α → PyData} (h : ∀ x ∈ l, Sh n (f x)) : Sh (n + 1) (.tuple (l.map f)) := Sh.tup fun y m => by
  obtain ⟨x, mx, rfl⟩ := List.mem_map.mp m
  exact h x mx
theorem all1 {n : Nat} {a : PyData} (h : Sh n a) : ∀ x ∈ [a], Sh n x := fun x m => by
  rcases List.mem_cons.mp m with rfl | m
  · exact h
  · cases m
theorem all0 {n : Nat} : ∀ x ∈ ([] : List PyData), Sh n x := fun x m => nomatch m
theorem allc {n : Nat} {a : PyData} {l : List PyData} (h : Sh n a) (k : ∀ x ∈ l, Sh n x) : ∀ x ∈ a :: l, Sh n x := fun x m => by
  rcases List.mem_cons.mp m with rfl | m
  · exact h
  · exact k x m
theorem Sh.shaped {n : Nat} {d : PyData} (h : Sh n d) (k : n ≤ 64 := by decide) : SeqAt.shaped d = true := by
  unfold SeqAt.shaped
  rw [h.1, decide_eq_true (Nat.le_trans h.2 k)]
  rfl
mutual
theorem eqv_lay : ∀ {d : PyData}, d.canLay0 = true → PyData.eqv d d = true
  | .none, _ => rfl
  | .bool b, _ => by simp [PyData.eqv]
  | .int i, _ => by simp [PyData.eqv]
  | .str x, _ => by simp [PyData.eqv]
  | .list xs, h => by
    unfold PyData.eqv
    exact eqvAll_lay (by simpa [PyData.canLay0] using h)
  | .tuple xs, h => by
    unfold PyData.eqv
    exact eqvAll_lay (by simpa [PyData.canLay0] using h)
  | .dict _, h => by simp [PyData.canLay0] at h
theorem eqvAll_lay : ∀ {l : List PyData}, PyData.canLayAll0 l = true → PyData.eqvAll l l = true
  | [], _ => rfl
  | x :: r, h => by
    have h' : x.canLay0 = true ∧ PyData.canLayAll0 r = true := by simpa [PyData.canLayAll0] using h
    unfold PyData.eqvAll
    rw [eqv_lay h'.1, eqvAll_lay h'.2]
    rfl
end
theorem Sh.eqv {n : Nat} {d : PyData} (h : Sh n d) : PyData.eqv d d = true := eqv_lay h.1
mutual
/-- without truths and dicts -/
def noBl : PyData → Bool
  | .none => true
  | .bool _ => false
  | .int _ => true
  | .str _ => true
  | .list xs => noBlA xs
  | .tuple xs => noBlA xs
  | .dict _ => false
def noBlA : List PyData → Bool
  | [] => true
  | x :: r => noBl x && noBlA r
end
mutual
theorem eqv_inj : ∀ {d e : PyData}, noBl d = true → noBl e = true → PyData.eqv d e = true → d = e
  | .none, e, _, k, h => by cases e <;> first | rfl | simp [PyData.eqv] at h
  | .int i, e, _, k, h => by
    cases e with
    | int j => simp [PyData.eqv] at h; rw [h]
    | bool b => simp [noBl] at k
    | _ => simp [PyData.eqv] at h
  | .str x, e, _, k, h => by
    cases e with
    | str j => simp [PyData.eqv] at h; rw [h]
    | _ => simp [PyData.eqv] at h
  | .list xs, e, a, k, h => by
    cases e with
    | list ys => rw [eqvAll_inj (d := xs) (e := ys) (by simpa [noBl] using a) (by simpa [noBl] using k) (by simpa [PyData.eqv] using h)]
    | _ => simp [PyData.eqv] at h
  | .tuple xs, e, a, k, h => by
    cases e with
    | tuple ys => rw [eqvAll_inj (d := xs) (e := ys) (by simpa [noBl] using a) (by simpa [noBl] using k) (by simpa [PyData.eqv] using h)]
    | _ => simp [PyData.eqv] at h
  | .bool _, _, a, _, _ => by simp [noBl] at a
  | .dict _, _, a, _, _ => by simp [noBl] at a
theorem eqvAll_inj : ∀ {d e : List PyData}, noBlA d = true → noBlA e = true → PyData.eqvAll d e = true → d = e
  | [], [], _, _, _ => rfl
  | [], _ :: _, _, _, h => by simp [PyData.eqvAll] at h
  | _ :: _, [], _, _, h => by simp [PyData.eqvAll] at h
  | x :: xs, y :: ys, a, b, h => by
    have a' : noBl x = true ∧ noBlA xs = true := by simpa [noBlA] using a
    have b' : noBl y = true ∧ noBlA ys = true := by simpa [noBlA] using b
    have h' : PyData.eqv x y = true ∧ PyData.eqvAll xs ys = true := by simpa [PyData.eqvAll] using h
    rw [eqv_inj a'.1 b'.1 h'.1, eqvAll_inj a'.2 b'.2 h'.2]
end
section
variable {δ : List Sl} {Q : Sl → List Sl → Prop} {d e : PyData}
theorem eqD_self (h : SeqAt.shaped d = true) : eqD d d = some true := by
  have hc : d.canLay0 = true := by
    unfold SeqAt.shaped at h
    exact (Bool.and_eq_true _ _ ▸ h).1
  unfold eqD
  cases d with
  | none => rfl
  | bool b => simp [scalD]
  | int b => simp [scalD]
  | str b => simp [scalD]
  | list l => show (if SeqAt.shaped (.list l) = true ∧ SeqAt.shaped (.list l) = true then some (PyData.eqv (.list l) (.list l)) else none) = _; rw [if_pos ⟨h, h⟩, eqv_lay hc]
  | tuple l => show (if SeqAt.shaped (.tuple l) = true ∧ SeqAt.shaped (.tuple l) = true then some (PyData.eqv (.tuple l) (.tuple l)) else none) = _; rw [if_pos ⟨h, h⟩, eqv_lay hc]
  | dict l => simp [PyData.canLay0] at hc
theorem wg_eqSelf (h : SeqAt.shaped d = true) : wG (gEq [d, d]) δ Q = Q (.sh (.bool true)) δ := by
  show wG ((eqD d d).map fun b => .sh (.bool b)) δ Q = _
  rw [eqD_self h]
  exact wG_some
theorem wg_neSelf (h : SeqAt.shaped d = true) : wG (gNe [d, d]) δ Q = Q (.sh (.bool false)) δ := by
  show wG ((eqD d d).map fun b => .sh (.bool (!b))) δ Q = _
  rw [eqD_self h]
  exact wG_some
end
end DL

set_option Elab.async false
set_option linter.all false
set_option maxRecDepth 100000
set_option maxHeartbeats 1000000
namespace DL
open PySem PySem.Spec PyProof.Rows L2
/-! ### sums by marks, as data -/
def D (l : List (Str × Int)) : List (PyData × PyData) := l.map fun p => (.str p.1, .int p.2)
def vals (l : List (Str × Int)) : List Int := l.map (·.2)
structure Good (l : List (Str × Int)) : Prop where
  nd : (l.map (·.1)).Nodup
  ok : ∀ p ∈ l, PyData.strOk p.1 = true
theorem isK_D (l : List (Str × Int)) : isK (D l) = true := by cases l <;> rfl
theorem len_D (l : List (Str × Int)) : (D l).length = l.length := by simp [D]
def put : List (Str × Int) → Str → Int → List (Str × Int)
  | [], k, v => [(k, v)]
  | p :: r, k, v => if p.1 = k then (p.1, v) :: r.map (fun q => if q.1 = k then (q.1, v) else q) else p :: put r k v
theorem over_D (l : List (Str × Int)) (k : Str) (v : Int) : (D l).map (fun kv => if keyed kv.1 (.inr k) = true then (kv.1, PyData.int v) else kv) = D (l.map fun q => if q.1 = k then (q.1, v) else q) := by
  unfold D
  rw [List.map_map, List.map_map]
  refine List.map_congr_left fun p _ => ?_
  show (if keyed (.str p.1) (.inr k) = true then (PyData.str p.1, PyData.int v) else (.str p.1, .int p.2)) = (PyData.str (if p.1 = k then (p.1, v) else p).1, PyData.int (if p.1 = k then (p.1, v) else p).2)
  by_cases h : p.1 = k <;> simp [keyed, h]
theorem put_D : ∀ (l : List (Str × Int)) (k : Str) (v : Int), dput (D l) (.inr k) (.int v) = D (put l k v)
  | [], k, v => rfl
  | p :: r, k, v => by
    show (if keyed (.str p.1) (.inr k) = true then (PyData.str p.1, PyData.int v) :: (D r).map (fun kv => if keyed kv.1 (.inr k) = true then (kv.1, PyData.int v) else kv) else (.str p.1, .int p.2) :: dput (D r) (.inr k) (.int v)) = _
    unfold put
    by_cases h : p.1 = k
    · rw [if_pos h, if_pos (by simp [keyed, h]), over_D]; rfl
    · rw [if_neg h, if_neg (by simp [keyed, h]), put_D r k v]; rfl
theorem put_keys : ∀ (l : List (Str × Int)) (k : Str) (v : Int), (put l k v).map (·.1) = if k ∈ l.map (·.1) then l.map (·.1) else l.map (·.1) ++ [k]
  | [], k, v => by simp [put]
  | p :: r, k, v => by
    unfold put
    by_cases h : p.1 = k
    · rw [if_pos h, if_pos (by simp [h])]
      simp only [List.map_cons, List.map_map]
      congr 1
      refine List.map_congr_left fun q _ => ?_
      show (if q.1 = k then (q.1, v) else q).1 = q.1
      by_cases h2 : q.1 = k <;> simp [h2]
    · rw [if_neg h, List.map_cons, put_keys r k v]
      by_cases h2 : k ∈ r.map (·.1)
      · rw [if_pos h2, if_pos (by simp only [List.map_cons]; exact List.mem_cons_of_mem _ h2)]; rfl
      · rw [if_neg h2, if_neg (by simp only [List.map_cons, List.mem_cons]; exact fun z => z.elim (fun z => h z.symm) h2)]; rfl
theorem put_good {l : List (Str × Int)} {k : Str} {v : Int} (g : Good l) (hk : PyData.strOk k = true) : Good (put l k v) ∧ (put l k v).length ≤ l.length + 1 := by
  have e := put_keys l k v
  have hl := congrArg List.length e
  rw [List.length_map] at hl
  refine ⟨⟨?_, fun p m => ?_⟩, ?_⟩
  · rw [e]
    by_cases h : k ∈ l.map (·.1)
    · rw [if_pos h]; exact g.nd
    · rw [if_neg h]
      exact List.nodup_append.mpr ⟨g.nd, by simp, fun a ha b hb => by simp at hb; subst hb; exact fun z => h (z ▸ ha)⟩
  · have m2 : p.1 ∈ (put l k v).map (·.1) := List.mem_map.mpr ⟨p, m, rfl⟩
    rw [e] at m2
    have : p.1 ∈ l.map (·.1) ∨ p.1 = k := by
      by_cases h : k ∈ l.map (·.1)
      · rw [if_pos h] at m2; exact .inl m2
      · rw [if_neg h] at m2
        rcases List.mem_append.mp m2 with m2 | m2
        · exact .inl m2
        · exact .inr (List.mem_singleton.mp m2)
    rcases this with h | h
    · obtain ⟨q, mq, eq⟩ := List.mem_map.mp h
      rw [← eq]; exact g.ok q mq
    · rw [h]; exact hk
  · rw [hl]
    by_cases h : k ∈ l.map (·.1)
    · rw [if_pos h]; simp
    · rw [if_neg h]; simp
theorem get_D : ∀ {l : List (Str × Int)}, (l.map (·.1)).Nodup → ∀ p ∈ l, dget (D l) (.inr p.1) = some (.int p.2)
  | q :: r, nd, p, m => by
    rw [List.map_cons, List.nodup_cons] at nd
    rcases List.mem_cons.mp m with rfl | m
    · exact dget_pos (by simp [keyed])
    · have : q.1 ≠ p.1 := fun z => nd.1 (z ▸ List.mem_map.mpr ⟨p, m, rfl⟩)
      exact (dget_neg (r := D r) (by simp [keyed, this])).trans (get_D nd.2 p m)
theorem ints_D (l : List (Str × Int)) : ints? ((D l).map (·.2)) = some (vals l) := by
  have : (D l).map (·.2) = (vals l).map .int := by simp [D, vals]
  rw [this, DL.ints_of]
theorem pairs_D : ∀ l : List (Str × Int), pairs? (l.map fun p => .tuple [.str p.1, .int p.2]) = some (l.map fun p => (.inr p.1, .int p.2))
  | [] => rfl
  | p :: r => by
    show ((keyOf (.str p.1)).bind fun k => (pairs? (r.map fun p => .tuple [.str p.1, .int p.2])).map ((k, PyData.int p.2) :: ·)) = _
    rw [pairs_D r]
    rfl
theorem put_new : ∀ {l : List (Str × Int)} {k : Str} {v : Int}, k ∉ l.map (·.1) → put l k v = l ++ [(k, v)]
  | [], k, v, _ => rfl
  | p :: r, k, v, h => by
    unfold put
    simp only [List.map_cons, List.mem_cons, not_or] at h
    rw [if_neg (fun z => h.1 z.symm), put_new h.2]
    rfl
theorem merge_D : ∀ (l acc : List (Str × Int)), ((acc ++ l).map (·.1)).Nodup → dmerge (D acc) (l.map fun p => (.inr p.1, .int p.2)) = D (acc ++ l)
  | [], acc, _ => by simp [dmerge]
  | p :: r, acc, nd => by
    show dmerge (dput (D acc) (.inr p.1) (.int p.2)) (r.map fun p => (.inr p.1, .int p.2)) = _
    have hn : p.1 ∉ acc.map (·.1) := by
      rw [List.map_append, List.nodup_append] at nd
      exact fun z => nd.2.2 _ z p.1 (by simp) rfl
    rw [put_D, put_new hn, merge_D r _ (by simpa using nd)]
    simp
/-! ### what a mark has -/
def val (l : List (Str × Int)) (k : Str) : Option Int := (l.find? fun p => decide (p.1 = k)).map (·.2)
theorem val_nil {k : Str} : val [] k = none := rfl
theorem val_pos {p : Str × Int} {r : List (Str × Int)} {k : Str} (h : p.1 = k) : val (p :: r) k = some p.2 := by simp [val, h]
theorem val_neg {p : Str × Int} {r : List (Str × Int)} {k : Str} (h : p.1 ≠ k) : val (p :: r) k = val r k := by simp [val, h]
theorem dget_D : ∀ (l : List (Str × Int)) (k : Str), dget (D l) (.inr k) = (val l k).map .int
  | [], _ => rfl
  | p :: r, k => by
    by_cases h : p.1 = k
    · rw [val_pos h]
      exact dget_pos (by simp [keyed, h])
    · rw [val_neg h]
      exact (dget_neg (r := D r) (by simp [keyed, h])).trans (dget_D r k)
theorem val_over {l : List (Str × Int)} {k j : Str} {v : Int} : val (l.map fun q => if q.1 = k then (q.1, v) else q) j = if j = k then (val l k).map fun _ => v else val l j := by
  induction l with
  | nil => by_cases h : j = k <;> simp [val, h]
  | cons p r ih =>
    rw [List.map_cons]
    by_cases h : p.1 = k
    · rw [if_pos h]
      by_cases hj : j = k
      · rw [val_pos (by rw [h, hj]), if_pos hj, val_pos h]; rfl
      · have n : p.1 ≠ j := fun z => hj (z.symm.trans h)
        rw [val_neg (p := (p.1, v)) n, ih, if_neg hj, if_neg hj, val_neg n]
    · rw [if_neg h]
      by_cases hj : p.1 = j
      · have n : j ≠ k := fun z => h (hj.trans z)
        rw [val_pos hj, if_neg n, val_pos hj]
      · rw [val_neg hj, ih]
        by_cases z : j = k
        · rw [if_pos z, if_pos z, val_neg h]
        · rw [if_neg z, if_neg z, val_neg hj]
theorem val_put : ∀ (l : List (Str × Int)) (k j : Str) (v : Int), val (put l k v) j = if j = k then some v else val l j
  | [], k, j, v => by
    unfold put
    by_cases h : j = k
    · rw [if_pos h, val_pos h.symm]
    · rw [if_neg h, val_neg (Ne.symm h)]
  | p :: r, k, j, v => by
    unfold put
    by_cases h : p.1 = k
    · rw [if_pos h]
      by_cases hj : j = k
      · rw [if_pos hj, val_pos (p := (p.1, v)) (h.trans hj.symm)]
      · have n : p.1 ≠ j := fun z => hj (z.symm.trans h)
        rw [if_neg hj, val_neg (p := (p.1, v)) n, val_over, if_neg hj, val_neg n]
    · rw [if_neg h]
      by_cases hj : p.1 = j
      · have n : j ≠ k := fun z => h (hj.trans z)
        rw [val_pos hj, if_neg n, val_pos hj]
      · rw [val_neg hj, val_put r k j v, val_neg hj]
theorem val_none : ∀ {l : List (Str × Int)} {k : Str}, val l k = none ↔ k ∉ l.map (·.1)
  | [], k => by simp [val]
  | p :: r, k => by
    by_cases h : p.1 = k
    · rw [val_pos h]; simp [h]
    · rw [val_neg h, val_none (l := r)]
      simp only [List.map_cons, List.mem_cons, not_or]
      exact ⟨fun z => ⟨fun e => h e.symm, z⟩, fun z => z.2⟩
theorem val_mem : ∀ {l : List (Str × Int)}, (l.map (·.1)).Nodup → ∀ {p : Str × Int}, p ∈ l → val l p.1 = some p.2
  | q :: r, nd, p, m => by
    rw [List.map_cons, List.nodup_cons] at nd
    rcases List.mem_cons.mp m with rfl | m
    · exact val_pos rfl
    · have : q.1 ≠ p.1 := fun z => nd.1 (z ▸ List.mem_map.mpr ⟨p, m, rfl⟩)
      rw [val_neg this]
      exact val_mem nd.2 m
theorem mem_val : ∀ {l : List (Str × Int)} {k : Str} {v : Int}, val l k = some v → (k, v) ∈ l
  | [], _, _, h => by cases h
  | p :: r, k, v, h => by
    by_cases e : p.1 = k
    · rw [val_pos e] at h
      cases h
      subst e
      exact List.mem_cons_self
    · rw [val_neg e] at h
      exact List.mem_cons_of_mem _ (mem_val h)
theorem keys_D (l : List (Str × Int)) : strs? ((D l).map (·.1)) = some (l.map (·.1)) := by
  have : (D l).map (·.1) = (l.map (·.1)).map .str := by simp [D]
  rw [this, DL.strs_of]
theorem dget_out {l : List (Str × Int)} {k : Str} : (dget (D l) (.inr k)).isSome = (val l k).isSome := by
  rw [dget_D]; cases val l k <;> rfl
/-- the pairs as a tuple tells them -/
def C (l : List (Str × Int)) : List PyData := l.map fun p => .tuple [.str p.1, .int p.2]
theorem pairs_C (l : List (Str × Int)) : pairs? (C l) = some (l.map fun p => (.inr p.1, .int p.2)) := pairs_D l
theorem merge_C {l : List (Str × Int)} (h : (l.map (·.1)).Nodup) : dmerge [] (l.map fun p => ((.inr p.1 : Key), PyData.int p.2)) = D l := by
  have := merge_D l [] (by simpa using h)
  simpa [D] using this
theorem C_sh {l : List (Str × Int)} (h : ∀ p ∈ l, PyData.strOk p.1 = true) : ∀ x ∈ C l, Sh 1 x := fun x m => by
  obtain ⟨p, mp, rfl⟩ := List.mem_map.mp m
  exact .tup (allc (.str (h p mp)) (all1 .int))
end DL

set_option Elab.async false
set_option linter.all false
set_option maxRecDepth 100000
set_option maxHeartbeats 1000000
namespace DL
open PySem PySem.Spec PyProof.Rows L2
/-! ### what the laws build: pens, words, things -/
abbrev pen (a b c : Int) : PyData := .list [.int a, .int b, .int c]
/-- a pen with at most so many draws done -/
def Pen (d : PyData) (k : Nat) : Prop := ∃ a b c : Int, d = pen a b c ∧ 0 ≤ a ∧ 0 ≤ b ∧ b < 1000000000000000000 ∧ 0 ≤ c ∧ c ≤ k
theorem Pen.mono {d : PyData} {k j : Nat} (h : Pen d k) (l : k ≤ j) : Pen d j := by
  obtain ⟨a, b, c, e, h1, h2, h3, h4, h5⟩ := h
  exact ⟨a, b, c, e, h1, h2, h3, h4, by omega⟩
/-- a small letter -/
def lowc (c : Nat) : Bool := decide (97 ≤ c) && decide (c ≤ 122)
/-- a word of one to eight small letters -/
def wordy (s : Str) : Bool := decide (1 ≤ s.length) && decide (s.length ≤ 8) && s.cps.all lowc
theorem wordy_ok {s : Str} (h : wordy s = true) : PyData.strOk s = true := by
  unfold wordy at h
  rw [Bool.and_eq_true] at h
  unfold PyData.strOk
  have h2 := h.2
  rw [Array.all_eq_true] at h2 ⊢
  intro i hi
  have := h2 i hi
  simp [lowc] at this
  simp
  omega
def words : List Str := Txt.split ("q abcdefgh aq qa abcdefgi ea zz eaq abd abc e bcdefgh za " ++ "qae acb ae abcdefg z qq aea az abcd xabcd eae abce eq") " "
theorem words_len : words.length = 26 := by decide +kernel
theorem words_wd : ∀ s ∈ words, wordy s = true := by decide +kernel
theorem words_nd : words.Nodup := by decide +kernel
theorem words_ok {s : Str} (h : s ∈ words) : PyData.strOk s = true := wordy_ok (words_wd s h)
/-- the k-th word -/
def wordAt (k : Int) : Str := words.getD (k % 26).toNat ""
theorem wordAt_mem (k : Int) : wordAt k ∈ words := by
  unfold wordAt
  have h1 := Int.emod_nonneg k (by omega : (26 : Int) ≠ 0)
  have h2 := Int.emod_lt_of_pos k (by omega : (0 : Int) < 26)
  have : (k % 26).toNat < words.length := by rw [words_len]; omega
  rw [List.getD_eq_getElem?_getD, List.getElem?_eq_getElem this]
  exact List.getElem_mem _
/-- a thing: day, mark, number, how many -/
structure Th where
  day : Int
  mark : Str
  num : Int
  many : Int
def Th.d (t : Th) : PyData := .tuple [.int t.day, .str t.mark, .int t.num, .int t.many]
/-- numbers of the size that the laws draw -/
abbrev lim : Int := 10000000000000000000000000000000000000000
structure Th.ok (t : Th) : Prop where
  wd : wordy t.mark = true
  d0 : 0 ≤ t.day
  d1 : t.day < lim
  n0 : 0 ≤ t.num
  n1 : t.num < lim
  m0 : 1 ≤ t.many
  m1 : t.many < lim
/-- a thing as the laws draw it -/
structure Drn (b : Int) (t : Th) : Prop where
  ok : Th.ok t
  mks : t.mark ∈ words
  day : t.day < 1000000
  num : t.num < 2 ^ b.toNat
  many : t.many < 1000000001
theorem Th.sh {t : Th} (h : Th.ok t) : Sh 1 t.d := .tup (allc .int (allc (.str (wordy_ok h.wd)) (allc .int (all1 .int))))
/-- a stream -/
def St (l : List Th) : PyData := .list (l.map Th.d)
def Oks (l : List Th) : Prop := ∀ t ∈ l, Th.ok t
theorem St.sh {l : List Th} (h : Oks l) : Sh 2 (.list (l.map Th.d)) := .listm fun t m => Th.sh (h t m)
/-- how many things, of a mark -/
def things (l : List Th) : Int := (l.map Th.many).sum
def timesOf (l : List Th) (k : Str) : Int := ((l.filter fun t => decide (t.mark = k)).map Th.many).sum
theorem pick3 {w : Int} {Q : PyData → Prop} (h0 : 0 ≤ w) (h1 : w < 3) (q : ∀ m : Int, m = 1 ∨ m = 1000 → Q (.int m)) : wO (atI [PyData.int 1, .int 1, .int 1000] w) Q := by
  have wc : w = 0 ∨ w = 1 ∨ w = 2 := by omega
  rcases wc with rfl | rfl | rfl <;> simp <;> exact q _ (by omega)
theorem pow2_le {b : Int} (hb : 0 ≤ b ∧ b ≤ 30) : (0 : Int) < 2 ^ b.toNat ∧ (2 : Int) ^ b.toNat ≤ 1073741824 := by
  refine ⟨Int.pow_pos (by omega), ?_⟩
  have := Nat.pow_le_pow_right (by omega : 0 < 2) (by omega : b.toNat ≤ 30)
  have e : (((2 : Nat) ^ b.toNat : Nat) : Int) = 2 ^ b.toNat := by simp
  rw [← e]
  omega
theorem sum_ints (ns : List Int) {δ : List Sl} {Q : Sl → List Sl → Prop} : wG (gSum [.list (ns.map .int)]) δ Q = Q (.sh (.int ns.sum)) δ := by
  rw [wg_sum, DL.ints_of, wO_some]
theorem mulB {i j : Int} (h1 : -lim < i) (h2 : i < lim) (h3 : -lim < j) (h4 : j < lim) : mulOk i j = true := mul_ok (by unfold big lim at *; omega) (by unfold big lim at *; omega) (by unfold big lim at *; omega) (by unfold big lim at *; omega)
theorem divB {i j : Int} (h1 : 0 < j) (h2 : j < lim) : divOk i j = true := div_ok h1 (by unfold big lim at *; omega)
end DL
namespace DL
open PySem PySem.Spec PyProof.Rows L2
/-- one of some ints -/
theorem pickI {v : Int} {Q : PyData → Prop} (l : List Int) (h0 : 0 ≤ v) (h1 : v < l.length) (q : ∀ m ∈ l, Q (.int m)) : wO (atI (l.map PyData.int) v) Q := by
  refine at_ok h0 (by rw [List.length_map]; exact h1) ?_
  rw [List.getElem_map]
  exact q _ (List.getElem_mem _)
end DL
namespace DL
open PySem PySem.Spec PyProof.Rows L2
@[simp] theorem flatR_str {s : Str} : flatR (.str s) = true := by unfold flatR; rfl
@[simp] theorem flatR_int {s : Int} : flatR (.int s) = true := by unfold flatR; rfl
end DL
namespace DL
open PySem PySem.Spec PyProof.Rows L2
/-- a slot that holds nothing that is owned or locked -/
structure Pl (s : Sl) : Prop where
  io : isIo s = false
  fr : isFr s = false
  un : unfr s = s
@[simp] theorem Pl.no : Pl .no := ⟨rfl, rfl, rfl⟩
@[simp] theorem Pl.sh {d : PyData} : Pl (.sh d) := ⟨rfl, rfl, rfl⟩
@[simp] theorem Pl.ow {d : PyData} : Pl (.ow d) := ⟨rfl, rfl, rfl⟩
theorem D_keys (l : List (Str × Int)) : (D l).map (fun x => x.fst) = l.map fun p => PyData.str p.1 := by
  unfold D
  rw [List.map_map]
  rfl
end DL

set_option Elab.async false
set_option linter.all false
set_option maxRecDepth 100000
set_option maxHeartbeats 1000000
namespace DL
open PySem PySem.Spec PyProof.Rows L2
/-! ### tallies -/
/-- the order of texts -/
def ltS (a b : Str) : Prop := a.cps.toList < b.cps.toList
theorem ltS_irrefl (a : Str) : ¬ ltS a a := List.lt_irrefl _
theorem ltS_trans {a b c : Str} (h : ltS a b) (k : ltS b c) : ltS a c := List.lt_trans h k
theorem ltS_of {a b : Str} (h : leS a b = true) (n : a ≠ b) : ltS a b := by
  rcases List.le_iff_lt_or_eq.mp (of_decide_eq_true h) with h | h
  · exact h
  · refine absurd ?_ n
    obtain ⟨⟨x⟩⟩ := a
    obtain ⟨⟨y⟩⟩ := b
    cases h
    rfl
/-- the marks of a dict, rising, each with what it has -/
def srtD (l : List (Str × Int)) : List (Str × Int) := (srtS (l.map (·.1))).map fun k => (k, (val l k).getD 0)
theorem srtD_keys (l : List (Str × Int)) : (srtD l).map (·.1) = srtS (l.map (·.1)) := by
  unfold srtD
  rw [List.map_map]
  exact List.map_id _
theorem srtD_perm {l : List (Str × Int)} (h : (l.map (·.1)).Nodup) : (srtD l).Perm l := by
  have a : (srtD l).Perm ((l.map (·.1)).map fun k => (k, (val l k).getD 0)) := (srtS_perm _).map _
  refine a.trans ?_
  have e : ((l.map (·.1)).map fun k => (k, (val l k).getD 0)) = l := by
    rw [List.map_map]
    have : l.map ((fun k => (k, (val l k).getD 0)) ∘ fun p => p.1) = l.map id := List.map_congr_left fun p m => by
      show (p.1, (val l p.1).getD 0) = p
      rw [val_mem h m]
      rfl
    rw [this, List.map_id]
  rw [e]
/-- marks that rise -/
def Rise (l : List (Str × Int)) : Prop := (l.map (·.1)).Pairwise ltS
theorem ltS_ne {a b : Str} (h : ltS a b) : a ≠ b := fun e => ltS_irrefl b (by rw [e] at h; exact h)
theorem Rise.nd {l : List (Str × Int)} (h : Rise l) : (l.map (·.1)).Nodup := List.Pairwise.imp (S := fun a b => a ≠ b) (fun h => ltS_ne h) h
theorem srtD_rise {l : List (Str × Int)} (h : (l.map (·.1)).Nodup) : Rise (srtD l) := by
  unfold Rise
  rw [srtD_keys]
  have nd : (srtS (l.map (·.1))).Nodup := (srtS_perm _).nodup_iff.mpr h
  have both : ∀ {x : List Str}, x.Pairwise (fun a b => leS a b = true) → x.Nodup → x.Pairwise ltS := by
    intro x h1 h2
    induction x with
    | nil => exact .nil
    | cons a r ih =>
      rw [List.pairwise_cons] at h1
      rw [List.nodup_cons] at h2
      exact List.pairwise_cons.mpr ⟨fun b m => ltS_of (h1.1 b m) fun e => h2.1 (e ▸ m), ih h1.2 h2.2⟩
  exact both (srtS_pw _) nd
def sumC (l : List (Str × Int)) : Int := (l.map (·.2)).sum
theorem sum_perm {l m : List Int} (h : l.Perm m) : l.sum = m.sum := by
  induction h with
  | nil => rfl
  | cons x _ ih => simp [ih]
  | swap x y l => simp; omega
  | trans _ _ a b => exact a.trans b
theorem sumC_perm {l m : List (Str × Int)} (h : l.Perm m) : sumC l = sumC m := sum_perm (h.map _)
/-- a tally: room, counts, let, total -/
structure Tl where
  room : Int
  cts : List (Str × Int)
  lt : Int
  tot : Int
def Tl.d (T : Tl) : PyData := .tuple [.int T.room, .tuple (C T.cts), .int T.lt, .int T.tot]
/-- a tally as the document tells it -/
structure Tl.Ok (T : Tl) : Prop where
  r1 : 1 ≤ T.room
  r2 : T.room ≤ 20
  rise : Rise T.cts
  wd : ∀ p ∈ T.cts, wordy p.1 = true
  c1 : ∀ p ∈ T.cts, 1 ≤ p.2
  len : (T.cts.length : Int) ≤ T.room
  l0 : 0 ≤ T.lt
  lo : (T.room + 1) * T.lt ≤ T.tot - sumC T.cts
  hi : T.tot - sumC T.cts ≤ 2 * T.room * T.lt
  lB : T.lt < 100000000000000000000
  cB : ∀ p ∈ T.cts, p.2 < 100000000000000000000
theorem sumC_le {B : Int} : ∀ {l : List (Str × Int)}, (∀ p ∈ l, 0 ≤ p.2 ∧ p.2 ≤ B) → 0 ≤ sumC l ∧ sumC l ≤ l.length * B
  | [], _ => by simp [sumC]
  | p :: r, h => by
    have h1 := h p List.mem_cons_self
    have h2 := sumC_le (l := r) fun q m => h q (List.mem_cons_of_mem _ m)
    have e : sumC (p :: r) = p.2 + sumC r := rfl
    rw [e, List.length_cons]
    have : ((r.length + 1 : Nat) : Int) * B = r.length * B + B := by rw [Int.natCast_add, Int.add_mul]; simp
    omega
theorem Tl.Ok.tB {T : Tl} (h : Tl.Ok T) : 0 ≤ sumC T.cts ∧ T.tot < 10000000000000000000000 := by
  have h1 := sumC_le (B := 100000000000000000000) (l := T.cts) fun p m => ⟨by have := h.c1 p m; omega, by have := h.cB p m; omega⟩
  have h2 := h.len
  have h3 := h.r2
  have h4 : 2 * T.room * T.lt ≤ 40 * T.lt := Int.mul_le_mul_of_nonneg_right (by omega) h.l0
  have h5 := h.hi
  have h6 := h.lB
  have h7 : (T.cts.length : Int) * 100000000000000000000 ≤ 20 * 100000000000000000000 := Int.mul_le_mul_of_nonneg_right (by omega) (by omega)
  omega
theorem Tl.Ok.strs {T : Tl} (h : Tl.Ok T) : ∀ p ∈ T.cts, PyData.strOk p.1 = true := fun p m => wordy_ok (h.wd p m)
theorem Tl.sh {T : Tl} (h : ∀ p ∈ T.cts, PyData.strOk p.1 = true) : Sh 3 T.d :=
  .tup (allc .int (allc ((Sh.tup (C_sh h)).mono (by decide)) (allc .int (all1 .int))))
/-- how much a mark has -/
def Tl.ct (T : Tl) (k : Str) : Int := (val T.cts k).getD 0
end DL
namespace DL
open PySem PySem.Spec PyProof.Rows L2
theorem val_snoc : ∀ {u : List (Str × Int)} {x : Str × Int} {k : Str}, x.1 ∉ u.map (·.1) → val (u ++ [x]) k = if x.1 = k then some x.2 else val u k
  | [], x, k, _ => by
    by_cases h : x.1 = k
    · rw [if_pos h]; exact val_pos h
    · rw [if_neg h]; exact val_neg h
  | p :: r, x, k, hn => by
    simp only [List.map_cons, List.mem_cons, not_or] at hn
    rw [List.cons_append]
    by_cases h : p.1 = k
    · rw [val_pos h, val_pos h, if_neg (fun z => hn.1 (z.trans h.symm))]
    · rw [val_neg h, val_neg h, val_snoc hn.2]
/-- a place within what rises: nothing ahead is alike -/
theorem Rise.apart {u v : List (Str × Int)} {x : Str × Int} (h : Rise (u ++ x :: v)) : x.1 ∉ u.map (·.1) := fun m => by
  have := h.nd
  rw [List.map_append, List.nodup_append] at this
  exact this.2.2 _ m x.1 (by simp) rfl
end DL
namespace DL
open PySem PySem.Spec PyProof.Rows L2
section
variable {δ : List Sl} {Q : Sl → List Sl → Prop} {T : Tl} {t : Th}
@[simp ↓] theorem wg_ixT0 : wG (gIx [T.d, .int 0]) δ Q = Q (.sh (.int T.room)) δ := by simp [Tl.d]
@[simp ↓] theorem wg_ixT1 : wG (gIx [T.d, .int 1]) δ Q = Q (.sh (.tuple (C T.cts))) δ := by simp [Tl.d]
@[simp ↓] theorem wg_ixT2 : wG (gIx [T.d, .int 2]) δ Q = Q (.sh (.int T.lt)) δ := by simp [Tl.d]
@[simp ↓] theorem wg_ixT3 : wG (gIx [T.d, .int 3]) δ Q = Q (.sh (.int T.tot)) δ := by simp [Tl.d]
@[simp ↓] theorem wg_ixh0 : wG (gIx [t.d, .int 0]) δ Q = Q (.sh (.int t.day)) δ := by simp [Th.d]
@[simp ↓] theorem wg_ixh1 : wG (gIx [t.d, .int 1]) δ Q = Q (.sh (.str t.mark)) δ := by simp [Th.d]
@[simp ↓] theorem wg_ixh2 : wG (gIx [t.d, .int 2]) δ Q = Q (.sh (.int t.num)) δ := by simp [Th.d]
@[simp ↓] theorem wg_ixh3 : wG (gIx [t.d, .int 3]) δ Q = Q (.sh (.int t.many)) δ := by simp [Th.d]
end
end DL

set_option Elab.async false
set_option linter.all false
set_option maxRecDepth 100000
set_option maxHeartbeats 1000000
namespace DL
open PySem PySem.Spec PyProof.Rows L2
/-! ### d.get(k, x) -/
def isDD : PyData → Bool
  | .dict ds => isK ds || (unT ds).isSome
  | _ => false
def chkD (x : Sl) : M Unit := fun δ => match datS δ x with
  | some d => if isDD d = true then .ok () δ else .no
  | none => .no
theorem isD_ok {K : PySem.W.Frag} {N : Addr → Prop} {H : Hp} {v : V} {d : PyData} (h : Top K N H v d) (ht : isDD d = true) : ∃ a, v = .ref a ∧ IsD H a := by
  cases d with
  | dict ds =>
    have ht : (isK ds || (unT ds).isSome) = true := ht
    rcases Bool.or_eq_true_iff.mp ht with hk | hk
    · obtain ⟨a, kvs, rfl, hd, _⟩ := h.dictK hk
      exact ⟨a, rfl, .inl ⟨kvs, hd⟩⟩
    · obtain ⟨es, e⟩ := Option.isSome_iff_exists.mp hk
      obtain ⟨a, kvs, rfl, hd, _⟩ := h.dictT e
      exact ⟨a, rfl, .inr ⟨kvs, .inl hd⟩⟩
  | _ => cases ht
theorem chkD_ok {K : PySem.W.Frag} {x : Sl} {Γ : Gm} {σ : L2.St} {δ : List Sl} {γ γ' : List Ent} {k : Unit → List Sl → Prop} {H : Hp} {v : V} (r : RS K Γ σ δ γ H) (m : (some v, x) ∈ γ) (h : Post K W Γ σ γ' (chkD x δ) k) : (∃ a, v = .ref a ∧ IsD H a) ∧ k () δ := by
  unfold chkD at h
  cases h1 : datS δ x with
  | none => simp only [h1] at h; exact h.elim
  | some d =>
    simp only [h1] at h
    by_cases h2 : isDD d = true
    · rw [if_pos h2] at h; exact ⟨isD_ok (r.top m h1) h2, h⟩
    · rw [if_neg h2] at h; exact h.elim
def gGet2 : List PyData → Option Out
  | [.dict ds, y, z] => if flatD z = true then (if isK ds = true then (keyOf y).map fun k => .sh ((dget ds k).getD z) else (unT ds).bind fun es => (qkey y).map fun k => .sh ((tget es k).getD z)) else none
  | _ => none
def rGet2 : List V → Hp → VK → Prop := fun xs H Q => ∃ a y z o, xs = [.ref a, y, z] ∧ DGet H a y o ∧ Q (o.getD z) H
theorem i_get2 {K : PySem.W.Frag} : Impl K rGet2 gGet2 := by
  intro N H vs ds o Q h g q
  unfold gGet2 at g
  split at g
  · rename_i ds y z
    obtain ⟨v, w, u, rfl, h1, h2, h3⟩ := h.three
    by_cases hf : flatD z = true
    · rw [if_pos hf] at g
      obtain ⟨ez, fz⟩ := h3.flat hf
      have hz : ∀ N', R K N' H u z := fun N' => by
        rw [ez]
        cases z <;> first | exact .non | exact .bl _ | exact .int _ | exact .str _ | cases hf
      by_cases hk : isK ds = true
      · rw [if_pos hk, Option.map_eq_some_iff] at g
        obtain ⟨k, e, rfl⟩ := g
        obtain ⟨a, kvs, rfl, hd, r⟩ := h1.dictK hk
        refine ⟨a, w, u, valV kvs k, rfl, .inl ⟨kvs, k, hd, h2.keyOf e, rfl⟩, ?_⟩
        rcases r.get (k := k) with ⟨z1, z2⟩ | ⟨v', d', z1, z2, z3⟩
        · rw [z2] at q
          rw [z1]
          exact q _ _ (.refl _) (hz _)
        · rw [z2] at q
          rw [z1]
          exact q _ _ (.refl _) (z3.old (.refl _))
      · rw [if_neg hk, Option.bind_eq_some_iff] at g
        obtain ⟨es, e1, g⟩ := g
        rw [Option.map_eq_some_iff] at g
        obtain ⟨k, e2, rfl⟩ := g
        obtain ⟨a, kvs, rfl, hd, r⟩ := h1.dictT e1
        obtain ⟨b, rfl, hb⟩ := h2.qkey e2
        refine ⟨a, _, u, valV kvs k, rfl, .inr ⟨kvs, k, b, .inl hd, rfl, hb, rfl⟩, ?_⟩
        rcases r.get (k := k) with ⟨z1, z2⟩ | ⟨v', d', z1, z2, z3⟩
        · rw [z2] at q
          rw [z1]
          exact q _ _ (.refl _) (hz _)
        · rw [z2] at q
          rw [z1]
          exact q _ _ (.refl _) (z3.old (.refl _))
    · rw [if_neg hf] at g; cases g
  · cases g
def mGet (mo ma mb : M Sl) : M Sl := mo >>= fun x => chkD x >>= fun _ => ma >>= fun y => mb >>= fun z => opM gGet2 [x, y, z]
section
variable {X : Cx} {W : XW}
theorem d_dgetOr {o e f : Expr} {apos cpos : Pos} {mo ma mb : M Sl} (hu : X.A.units + 1 < cLine) (ho : PE X o (tV X.K W mo)) (he : PE X e (tV X.K W ma)) (hf : PE X f (tV X.K W mb)) (m : M2 X o "get" apos e f cpos := by exact ⟨rfl, rfl, rfl, rfl⟩) :
    PE X (.Call (.Attribute o "get" apos) [e, f] [] cpos) (tV X.K W (mGet mo ma mb)) :=
  PE.imp (pe_dget2 hu ho he hf m) fun σ H Q ⟨Γ, δ, γ, r0, p⟩ => ⟨Γ, δ, γ, r0, (Post.bind p).imp fun x δ1 p1 v H1 r1 => by
    obtain ⟨⟨a, ea, isd⟩, p2⟩ := chkD_ok r1 List.mem_cons_self (Post.bind p1)
    subst ea
    refine ⟨a, rfl, isd, Γ, δ1, (some (.ref a), x) :: γ, r1, ((Post.bind p2).ext [(some (.ref a), x)]).imp fun y δ2 p3 w H2 r2 => ⟨Γ, δ2, (some w, y) :: (some (.ref a), x) :: γ, r2, ((Post.bind p3).ext [(some w, y), (some (.ref a), x)]).imp fun z δ3 p4 u H3 r3 => ?_⟩⟩
    have q := run_op (K := X.K) (W := W) i_get2 (vs := [.ref a, w, u]) (rs := [x, y, z]) (γ' := γ) (Q := Q) r3 (fun e m => by
      rcases List.mem_cons.mp m with rfl | m
      · exact List.mem_cons_of_mem _ (List.mem_cons_of_mem _ List.mem_cons_self)
      · rcases List.mem_cons.mp m with rfl | m
        · exact List.mem_cons_of_mem _ List.mem_cons_self
        · rcases List.mem_cons.mp m with rfl | m
          · exact List.mem_cons_self
          · cases m) rfl (p4.imp fun s δ' k v' H'' r' => k v' H'' (drop1 (γ₀ := [(some u, z), (some w, y), (some (.ref a), x)]) r'))
    obtain ⟨a', y', z', o', e', g, q⟩ := q
    cases e'
    exact ⟨o', g, q⟩⟩
end
section
variable {δ : List Sl} {Q : Sl → List Sl → Prop} {L : Unit → List Sl → Prop} {mo ma mb : M Sl} {l : List (Str × Int)} {k : Str} {n : Int}
@[simp ↓] theorem wM_get : wM (mGet mo ma mb δ) Q = wM (mo δ) fun x δ1 => wM (chkD x δ1) fun _ δ2 => wM (ma δ2) fun y δ3 => wM (mb δ3) fun z δ4 => wM (opM gGet2 [x, y, z] δ4) Q := by
  unfold mGet
  exact wM_b fun _ _ => wM_b fun _ _ => wM_b fun _ _ => wM_b fun _ _ => rfl
@[simp ↓] theorem wM_chkD {x : Sl} : wM (chkD x δ) L = match datS δ x with
    | some d => isDD d = true ∧ L () δ
    | none => False := by
  unfold chkD
  cases datS δ x with
  | none => exact wM_no
  | some d =>
    dsimp only
    by_cases h : isDD d = true <;> simp [h, wM_ok, wM_no]
@[simp] theorem isDD_D : isDD (.dict (D l)) = true := by
  show (isK (D l) || _) = true
  rw [isK_D]
  rfl
@[simp ↓] theorem wg_get2D : wG (gGet2 [.dict (D l), .str k, .int n]) δ Q = Q (.sh (.int ((val l k).getD n))) δ := by
  have e : gGet2 [.dict (D l), .str k, .int n] = some (.sh ((dget (D l) (.inr k)).getD (.int n))) := by
    simp [gGet2, flatD, isK_D, keyOf]
  rw [e, wG_some, dget_D]
  cases val l k <;> rfl
@[simp ↓] theorem wg_sortDD : wG (gSortD [.dict (D l)]) δ Q = (l.length < 64 ∧ Q (.ow (.list ((srtS (l.map (·.1))).map .str))) δ) := by
  have e : gSortD [.dict (D l)] = if l.length < 64 then some (.nw (.list ((srtS (l.map (·.1))).map .str))) else none := by
    show (if isK (D l) = true then (strs? ((D l).map (·.1))).bind fun ks => if ks.length < 64 then some (Out.nw (.list ((srtS ks).map .str))) else none else none) = _
    rw [if_pos (isK_D l), keys_D, Option.bind_some, List.length_map]
  rw [e]
  exact wG_if
end
end DL
namespace DL
open PySem PySem.Spec PyProof.Rows L2
@[simp ↓] theorem wg_slices {δ : List Sl} {Q : Sl → List Sl → Prop} {z : Str} {lo hi : Option Int} : wG (gSlice lo hi (.str z)) δ Q = (z.length ≤ 1000000 ∧ Q (.sh (.str (cutS z lo hi))) δ) := by
  have e : gSlice lo hi (.str z) = if z.length ≤ 1000000 then some (.sh (.str (cutS z lo hi))) else none := rfl
  rw [e]
  exact wG_if
theorem pickS {v : Int} {Q : PyData → Prop} (l : List Str) (h0 : 0 ≤ v) (h1 : v < l.length) (q : ∀ m ∈ l, Q (.str m)) : wO (atI (l.map PyData.str) v) Q := by
  refine at_ok h0 (by rw [List.length_map]; exact h1) ?_
  rw [List.getElem_map]
  exact q _ (List.getElem_mem _)
end DL

set_option Elab.async false
set_option linter.all false
set_option maxRecDepth 100000
set_option maxHeartbeats 1000000
namespace DL
open PySem PySem.Spec PyProof.Rows L2
/-! ### errors: raised, caught and kept, asked for their class -/
/-- what is let out, by a wish of exceptions -/
abbrev WT (cl : Str → Value) (E : WX) : XW := fun e σ H => e.val = none ∧ E (cl e.cls) none σ H
theorem pass_t {X : Cx} {cl : Str → Value} {E : WX} (tk : Takes X E) : ∀ σ, PassesAt (L2.CX X.prog X.w) X σ (EW cl (WT cl E) σ) := fun σ pins H s e s' I c =>
  tk e s' (XE.of_call I (fun cls d H' ⟨e, hv, hc, hd, hW⟩ => by subst hc hd; exact hW.2) c)
def raiseS (x : Str) : SM := fun δ => .er ⟨x, none⟩ δ
section
variable {X : Cx} {pos : Pos} {cl : Str → Value} {E : WX}
theorem ds_raise {x m : Str} {C : Addr} {j : Nat} {p p2 cpos : Pos} {B newId initId : String} {bmB : List Value} (hc : X.calm = true) (tk : Takes X E) (F : ExcBaseFacts B newId initId bmB) (q : PySem.W.excIn X.K C bmB newId = true) (gC : X.mg x = some (.ref C)) (kC : PySem.W.keepIn X.K (.ref C) = true) (h1 : PySem.W.subIn X.K (.ref C) (.type "BaseException") = some true) (h2 : PySem.W.typeIn X.K (.ref C) = some (.type "type")) (hg : Gl X x) (hcl : cl x = .ref C)
    (hdb : (x == ("__debug__" : Str)) = false := by decide) : PS X (.Raise (some (.Call (.Name x p) [.Constant (.str m) j p2] [] cpos)) none pos) (tS X.K (WT cl E) (raiseS x)) :=
  PS.imp (ps_raise hc tk (pmk_own F q gC kC (raises_own h1 h2) hg hdb)) fun D σ H ⟨Γ, δ, γ, r, na, p⟩ => by
    have q := (p σ H r).2
    rw [← hcl]
    exact q
end
/-- the error, as data -/
def errD (x : Str) : PyData := .dict [(.none, .str x)]
def tryS (i : Nat) (tab : Str → Option Bool) (mb ms : SM) : SM := fun δ => match mb δ with
  | .er e δ1 => if e.val.isNone = true then match tab e.cls with
    | some true => match nameG i (.sh (errD e.cls)) δ1 with
      | some δ2 => match ms δ2 with
        | .nx δ3 => .nx (δ3.set i .no)
        | .rt r δ3 => if r.isAl = true then .no else .rt r (δ3.set i .no)
        | .bk δ3 => .bk (δ3.set i .no)
        | .ct δ3 => .ct (δ3.set i .no)
        | _ => .no
      | none => .no
    | some false => .er e δ1
    | none => .no
    else .no
  | x => x
section
variable {X : Cx} {pos pos' np : Pos} {E : WX} {i : Nat} {x n : Str} {c : Value} {body suite : List Stmt} {b0 : Stmt} {mb ms : SM} {tab : Str → Option Bool}
abbrev clX (K : PySem.W.Frag) : Str → Value := fun x => .ref (He.ga K x)
theorem ds_try (hs : X.stack = X.env :: X.outer) (hf : X.env.frame = some X.env.locals) (hex : X.ex = []) (hN : X.N.Nodup) (hi : X.N[i]? = some n) (hln : X.env.kindOf n = some .local) (hc : Names X x c) (tk : Takes X E)
    (ht : ∀ e b, tab e = some b → PySem.W.exmOne X.K (.ref (He.ga X.K e)) c = some b)
    (hb : ∀ (W : WX) (pn : List (Addr × Obj)) (xe : Value → Shared → Prop), Takes (X.tr pn xe) W → PassesOwn (model X.prog X.w) X.A X.env xe → PSs (X.tr pn xe) body (tS X.K (WT (clX X.K) W) mb))
    (hsu : ∀ (a : Addr) (pn : List (Addr × Obj)), PSs (X.suite a pn) (b0 :: suite) (tS X.K W0 ms)) :
    PS X (.Try body [.ExceptHandler (some (.Name x np)) (some n) (b0 :: suite) pos'] [] [] pos) (tS X.K (WT (clX X.K) E) (tryS i tab mb ms)) :=
  PS.imp (ps_try_keep (tb := fun W => tS X.K (WT (clX X.K) W) mb) (ts := tS X.K W0 ms) hs hf hex hN hi hln hc tk hb hsu) fun D σ H ⟨Γ, δ, γ, r, na, p⟩ => ⟨Γ, δ, γ, r, na, by
    unfold tryS at p
    cases h1 : mb δ with
    | nx δ1 => simp only [h1] at p; exact p
    | rt v δ1 => simp only [h1] at p; exact p
    | bk δ1 => simp only [h1] at p; exact p
    | ct δ1 => simp only [h1] at p; exact p
    | no => simp only [h1] at p; exact p
    | er e δ1 =>
      simp only [h1] at p
      by_cases hv : e.val.isNone = true
      · rw [if_pos hv] at p
        have hv2 : e.val = none := Option.isNone_iff_eq_none.mp hv
        intro σ1 H1 r1
        refine ⟨hv2, ?_⟩
        cases h2 : tab e.cls with
        | none => simp only [h2] at p; exact p.elim
        | some b =>
          cases b with
          | false =>
            simp only [h2] at p
            refine ⟨false, ht _ _ h2, fun z => (nomatch z), fun _ => (p σ1 H1 r1).2⟩
          | true =>
            simp only [h2] at p
            refine ⟨true, ht _ _ h2, fun _ a ha => ?_, fun z => nomatch z⟩
            cases h3 : nameG i (.sh (errD e.cls)) δ1 with
            | none => simp only [h3] at p; exact p.elim
            | some δ2 =>
              simp only [h3] at p
              have sm := same_upd (o := ExK (.ref (He.ga X.K e.cls)) none a) ha
              have rr : R X.K (Nn Γ (σ1.zip δ1 ++ γ)) (upd H1 a (ExK (.ref (He.ga X.K e.cls)) none a)) (.ref a) (errD e.cls) := .exc (r1.rel.unal a ha) upd_same
              have r2 : RS X.K Γ σ1 δ1 ((some (.ref a), .sh (errD e.cls)) :: γ) (upd H1 a (ExK (.ref (He.ga X.K e.cls)) none a)) := ⟨r1.len, (r1.same sm).rel.push rfl ⟨_, rfl, rr⟩⟩
              refine ⟨Γ, δ2, γ, r2.store na h3, na, ?_⟩
              cases h4 : ms δ2 with
              | nx δ3 => simp only [h4] at p; exact fun σ' H' r' => p _ _ (r'.forget na i none)
              | bk δ3 => simp only [h4] at p; exact fun σ' H' r' => p _ _ (r'.forget na i none)
              | ct δ3 => simp only [h4] at p; exact fun σ' H' r' => p _ _ (r'.forget na i none)
              | rt v δ3 =>
                simp only [h4] at p
                by_cases hva : v.isAl = true
                · rw [if_pos hva] at p; exact p.elim
                · rw [if_neg hva] at p
                  exact fun σ' u H' r' => p (σ'.set i none) u H' (r'.forget (fun e m => by
                      rcases List.mem_cons.mp m with rfl | m
                      · exact Bool.eq_false_iff.mpr hva
                      · exact na e m) i none)
              | er e' δ3 => simp only [h4] at p; exact p.elim
              | no => simp only [h4] at p; exact p.elim
      · rw [if_neg hv] at p; exact p.elim⟩
end

/-! ### the class of a caught error -/
/-- a value's type, with caught errors -/
inductive TyY (K : PySem.W.Frag) (H : Hp) : V → Value → Prop where
  | x {v : V} {t : Value} (h : TyX K H v t) : TyY K H v t
  | exc {a D : Addr} (h : H a = some (ExK (.ref D) none a)) (c : ExcC K D) : TyY K H (.ref a) (.ref D)
theorem kit_ofY {X : Cx} {pins : List (Addr × Obj)} {σ : L2.St} {H : Hp} {s : Shared} {x : V} {u t : Value} (I : Inv X pins σ H s) (rx : RelV x u) (ty : TyY X.K H x t) : ∃ P : Heap → Prop, PySem.W.KitX X.K u t P ∧ P s.heap ∧ u ≠ .builtin "__main__.__loader__#opaque" := by
  cases ty with
  | x h => exact kit_of I rx h
  | @exc a D h C =>
    cases (show u = Value.ref a from rx)
    obtain ⟨⟨oe, vs, h1, hz, hv⟩, _⟩ := (show ObjOk X.prog X.w H s.heap a (ExK (.ref D) none a) from I.hok a _ h)
    have J : PySem.W.InstAt s.heap a oe D none := by
      obtain ⟨oc, od, oda, osl⟩ := oe
      obtain ⟨z1, z2⟩ := hz
      dsimp only at z1 z2 hv
      subst z1 z2 hv
      exact ⟨h1, rfl, rfl, trivial⟩
    exact ⟨_, PySem.W.handS_kitx_exc C.hg C.hk C.hs C.hd C.ha C.hn C.ht C.hm, J, fun z => nomatch z⟩
def rIsiY (K : PySem.W.Frag) : List V → Hp → VK → Prop := fun xs H Q => ∃ (x c : V) (t u : Value) (b : Bool), xs = [x, c] ∧ ClsV c u ∧ TyY K H x t ∧ PySem.W.kitOne K t u = some b ∧ Q (.bl b) H
def rIsiYT (K : PySem.W.Frag) : List V → Hp → VK → Prop := fun xs H Q => ∃ (x : V) (tp : Addr) (cs : List V) (t : Value) (us : List Value) (b : Bool), xs = [x, .ref tp] ∧ H tp = some (.tup cs) ∧ Paired ClsV cs us ∧ TyY K H x t ∧ PySem.W.kitAny K t us = some b ∧ Q (.bl b) H
theorem call_isiY {X : Cx} : CallR X (.builtin "isinstance") (rIsiY X.K) := by
  intro pins s σ H xs us Q I r h
  obtain ⟨x, c, t, u, b, rfl, k, ty, e, q⟩ := h
  obtain ⟨u1, u2, rfl, r1, r2⟩ := vals2 r
  have e2 := k.eq r2
  subst e2
  obtain ⟨P, Z, p, hx⟩ := kit_ofY I r1 ty
  exact PySem.W.kia_one Z I.kIn p e hx fun tk => ⟨.bl b, H, I.tok tk, rfl, q⟩
theorem call_isiYT {X : Cx} : CallR X (.builtin "isinstance") (rIsiYT X.K) := by
  intro pins s σ H xs us Q I r h
  obtain ⟨x, tp, cs, t, ws, b, rfl, hT, k, ty, e, q⟩ := h
  obtain ⟨u1, u2, rfl, r1, r2⟩ := vals2 r
  cases (show u2 = Value.ref tp from r2)
  obtain ⟨P, Z, p, hx⟩ := kit_ofY I r1 ty
  obtain ⟨_, its, rv, o, h1, h2, n, h3⟩ := (show ObjOk X.prog X.w H s.heap tp (.tup cs) from I.hok tp _ hT)
  have e3 := ClsV.all k rv
  subst e3
  obtain ⟨oc, od, dt, sl⟩ := o
  simp only at h2 h3
  subst h2 h3
  exact PySem.W.kia_tup Z I.kIn p h1 e hx fun tk => ⟨.bl b, H, I.tok tk, rfl, q⟩
/-- the errors of the program that a caught error may be -/
def errs : List Str := ["NoRoom", "NoShare", "TooCoarse", "NoNumber", "NoPlace", "NoMark", "NoCells", "NoDays", "NoFrame", "NoParcel", "Twice", "NoText", "NoRow", "NoName"]
def errB (e x : Str) : Option Bool := if x = "ShareError" then some true else if errs.contains x = true then some (decide (e = x)) else none
/-- a class by its name: an own one | a built-in type -/
inductive ClsN where
  | own (x : Str)
  | ty (T : String)
def ClsN.v (K : PySem.W.Frag) : ClsN → V
  | .own x => .ref (He.ga K x)
  | .ty T => .ty T
def ClsN.u (K : PySem.W.Frag) : ClsN → Value
  | .own x => .ref (He.ga K x)
  | .ty T => .type T
theorem ClsN.ok {K : PySem.W.Frag} (c : ClsN) : ClsV (c.v K) (c.u K) := by
  cases c with
  | own x => exact .own _
  | ty T => exact .ty T
def isOne (es xs : List Str) (d : PyData) : ClsN → Option Bool
  | .own x => match excD d with
    | some e => if es.contains e = true ∧ xs.contains x = true then errB e x else none
    | none => match d with
      | .none => if xs.contains x = true then some false else none
      | _ => none
  | .ty T => match excD d with
    | some e => if es.contains e = true ∧ T = "ValueError" then some true else none
    | none => kitB (tyName d) T
def isAny (es xs : List Str) (d : PyData) : List ClsN → Option Bool
  | [] => some false
  | c :: r => match isOne es xs d c with
    | some true => some true
    | some false => isAny es xs d r
    | none => none
/-- what the classes say -/
structure ErrK (K : PySem.W.Frag) (es xs : List Str) : Prop where
  kit : ∀ e ∈ es, ∀ x ∈ xs, ∀ b, errB e x = some b → PySem.W.kitOne K (.ref (He.ga K e)) (.ref (He.ga K x)) = some b
  exm : ∀ e ∈ es, ∀ x ∈ xs, ∀ b, errB e x = some b → PySem.W.exmOne K (.ref (He.ga K e)) (.ref (He.ga K x)) = some b
  ve : ∀ e ∈ es, PySem.W.kitOne K (.ref (He.ga K e)) (.type "ValueError") = some true
  non : ∀ x ∈ xs, PySem.W.kitOne K (.type "NoneType") (.ref (He.ga K x)) = some false
  exc : ∀ e ∈ es, ExcC K (He.ga K e)
def tyV (K : PySem.W.Frag) (d : PyData) : Value := match excD d with
  | some e => .ref (He.ga K e)
  | none => .type (tyName d)
section
variable {K : PySem.W.Frag} {es xs : List Str} {N : Addr → Prop} {H : Hp} {v : V} {d : PyData}
theorem isOne_kit (E : ErrK K es xs) {c : ClsN} {b : Bool} (h : isOne es xs d c = some b) : PySem.W.kitOne K (tyV K d) (c.u K) = some b := by
  unfold isOne at h
  unfold tyV
  cases c with
  | own x =>
    dsimp only at h
    cases q : excD d with
    | some e =>
      simp only [q] at h
      by_cases z : es.contains e = true ∧ xs.contains x = true
      · rw [if_pos z] at h
        exact E.kit e (List.contains_iff_mem.mp z.1) x (List.contains_iff_mem.mp z.2) b h
      · rw [if_neg z] at h; cases h
    | none =>
      simp only [q] at h
      cases d with
      | none =>
        dsimp only at h
        by_cases z : xs.contains x = true
        · rw [if_pos z] at h
          cases h
          exact E.non x (List.contains_iff_mem.mp z)
        · rw [if_neg z] at h; cases h
      | _ => cases h
  | ty T =>
    dsimp only at h
    cases q : excD d with
    | some e =>
      simp only [q] at h
      by_cases z : es.contains e = true ∧ T = "ValueError"
      · rw [if_pos z] at h
        cases h
        obtain ⟨z1, rfl⟩ := z
        exact E.ve e (List.contains_iff_mem.mp z1)
      · rw [if_neg z] at h; cases h
    | none =>
      simp only [q] at h
      exact kit_ty h
theorem isOne_exc {c : ClsN} {b : Bool} {e : Str} (h : isOne es xs d c = some b) (q : excD d = some e) : e ∈ es := by
  unfold isOne at h
  cases c with
  | own x =>
    simp only [q] at h
    by_cases z : es.contains e = true ∧ xs.contains x = true
    · exact List.contains_iff_mem.mp z.1
    · rw [if_neg z] at h; cases h
  | ty T =>
    simp only [q] at h
    by_cases z : es.contains e = true ∧ T = "ValueError"
    · exact List.contains_iff_mem.mp z.1
    · rw [if_neg z] at h; cases h
theorem isAny_kit (E : ErrK K es xs) : ∀ {cs : List ClsN} {b : Bool}, isAny es xs d cs = some b → PySem.W.kitAny K (tyV K d) (cs.map (ClsN.u K)) = some b
  | [], b, h => by cases h; rfl
  | c :: r, b, h => by
    unfold isAny at h
    cases q : isOne es xs d c with
    | none => simp only [q] at h; cases h
    | some b1 =>
      have k := isOne_kit E q
      cases b1 with
      | true =>
        simp only [q] at h
        cases h
        exact kitAny_cons k (fun z => nomatch z) fun _ => rfl
      | false =>
        simp only [q] at h
        exact kitAny_cons k (fun _ => isAny_kit E h) fun z => nomatch z
theorem isAny_exc {c : ClsN} {cs : List ClsN} {b : Bool} {e : Str} (h : isAny es xs d (c :: cs) = some b) (q : excD d = some e) : e ∈ es := by
  unfold isAny at h
  cases z : isOne es xs d c with
  | none => simp only [z] at h; cases h
  | some b1 => exact isOne_exc z q
theorem excD_eq {e : Str} (h : excD d = some e) : d = .dict [(.none, .str e)] := by
  unfold excD at h
  split at h
  · cases h; rfl
  · cases h
theorem rk_key {kvs : List (Key × V)} : ∀ {ds : List (PyData × PyData)}, RK K N H kvs ds → ∀ a b r, ds = (a, b) :: r → ∃ k, a = keyD k
  | _, .nil, _, _, _, h => nomatch h
  | _, .cons _ _, _, _, _, h => by cases h; exact ⟨_, rfl⟩
theorem rk_non {kvs : List (Key × V)} {b : PyData} {r : List (PyData × PyData)} (h : RK K N H kvs ((.none, b) :: r)) : False := by
  obtain ⟨k, e⟩ := rk_key h _ _ _ rfl
  cases k <;> cases e
theorem top_ty (E : ErrK K es xs) (h : Top K N H v d) (he : ∀ e, excD d = some e → e ∈ es) : TyY K H v (tyV K d) := by
  unfold tyV
  cases q : excD d with
  | none => exact .x (ty_x h q)
  | some e =>
    have m := he e q
    have z := excD_eq q
    subst z
    cases h with
    | own c =>
      rcases c with ⟨k, e1, r⟩ | ⟨k, e1, es, e2, r⟩
      · exact (rk_non r).elim
      · cases e2
    | val r =>
      cases r with
      | exc n h => exact .exc h (E.exc _ m)
      | dk n h r => exact (rk_non r).elim
end
/-! ### .. in the text -/
def tCls (vs : List V) : TA := fun σ H Q => Q vs H
section
variable {X : Cx} {W : XW} {pos : Pos}
theorem pa_c0 : PA X [] (tCls []) := pa_nil
theorem pa_cO {x : Str} {p : Pos} {es : List Expr} {vs : List V} (hm : X.mg x = some (.ref (He.ga X.K x))) (hg : Gl X x) (h : PA X es (tCls vs)) (hd : (x == ("__debug__" : Str)) = false := by decide) (hs : starEach (.Name x p :: es) X.env = (false, eval (.Name x p) X.env) :: starEach es X.env := by rfl) :
    PA X (.Name x p :: es) (tCls (ClsN.v X.K (.own x) :: vs)) := pa_cons (pe_glob (v := .ref (He.ga X.K x)) hg hm rfl hd) h hs
theorem pa_cT {T : Str} {Tn : String} {p : Pos} {es : List Expr} {vs : List V} (hmT : X.mg T = none) (hgT : Gl X T) (hvT : bootBuiltins T = some (.type Tn)) (h : PA X es (tCls vs)) (hn : T ≠ "__name__" := by decide) (hd : (T == ("__debug__" : Str)) = false := by decide) (hs : starEach (.Name T p :: es) X.env = (false, eval (.Name T p) X.env) :: starEach es X.env := by rfl) :
    PA X (.Name T p :: es) (tCls (ClsN.v X.K (.ty Tn) :: vs)) := pa_cons (pe_bltn (v := .ty Tn) hgT hmT hvT rfl hn hd) h hs
def isEM (es xs : List Str) (cs : List ClsN) (m : M Sl) : M Sl := m >>= fun s => fun δ => match datS δ s with
  | some d => match isAny es xs d cs with
    | some b => .ok (.sh (.bool b)) δ
    | none => .no
  | none => .no
theorem d_isE {es xs : List Str} {e : Expr} {ce : Expr} {c : ClsN} {m : M Sl} {p : Pos} (E : ErrK X.K es xs) (hm : X.mg "isinstance" = none) (hg : Gl X "isinstance") (he : PE X e (tV X.K W m)) (hc : PA X [ce] (tCls [c.v X.K])) (hv : bootBuiltins "isinstance" = some (.builtin "isinstance") := by decide +kernel)
    (hs : starEach [e, ce] X.env = (false, eval e X.env) :: starEach [ce] X.env := by rfl) (hpl : (backTo pos (starEach [ce] X.env)).any (·.1) = false := by rfl) :
    PE X (.Call (.Name "isinstance" p) [e, ce] [] pos) (tV X.K W (isEM es xs [c] m)) :=
  PE.imp (pe_callB call_isiY hg hm hv (pa_cons he hc hs) (by decide) (by decide) hs hpl) fun σ H Q ⟨Γ, δ, γ, r, p⟩ => ⟨Γ, δ, γ, r, (Post.bind p).imp fun s δ1 p1 v H1 r1 => by
    cases h1 : datS δ1 s with
    | none => simp only [h1] at p1; exact False.elim p1
    | some d =>
      simp only [h1] at p1
      cases h2 : isAny es xs d [c] with
      | none => simp only [h2] at p1; exact False.elim p1
      | some b =>
        simp only [h2] at p1
        have ht := r1.top (List.mem_cons_self) h1
        have h3 : isOne es xs d c = some b := by
          unfold isAny isAny at h2
          cases q : isOne es xs d c with
          | none => simp only [q] at h2; cases h2
          | some b1 => cases b1 <;> simp only [q] at h2 <;> exact h2
        exact ⟨v, c.v X.K, _, _, b, rfl, c.ok, top_ty E ht fun e q => isOne_exc h3 q, isOne_kit E h3, p1 _ H1 ⟨r1.len, r1.pop.rel.push rfl ⟨_, rfl, .bl b⟩⟩⟩⟩
theorem cls_all {K : PySem.W.Frag} : ∀ cs : List ClsN, Paired ClsV (cs.map (ClsN.v K)) (cs.map (ClsN.u K))
  | [] => .nil
  | c :: r => .cons c.ok (cls_all r)
theorem d_isET {es xs : List Str} {e : Expr} {ces : List Expr} {c : ClsN} {cs : List ClsN} {m : M Sl} {k : Nat} {p pt : Pos} (E : ErrK X.K es xs) (hm : X.mg "isinstance" = none) (hg : Gl X "isinstance") (he : PE X e (tV X.K W m)) (hc : PA X ces (tCls ((c :: cs).map (ClsN.v X.K)))) (hz : (c :: cs).length ≤ 100 := by decide) (hv : bootBuiltins "isinstance" = some (.builtin "isinstance") := by decide +kernel)
    (hs : starEach [e, .Tuple ces k pt] X.env = (false, eval e X.env) :: starEach [.Tuple ces k pt] X.env := by rfl) (hs2 : starEach [.Tuple ces k pt] X.env = (false, eval (.Tuple ces k pt) X.env) :: starEach [] X.env := by rfl) (hpl : (backTo pos (starEach [.Tuple ces k pt] X.env)).any (·.1) = false := by rfl) :
    PE X (.Call (.Name "isinstance" p) [e, .Tuple ces k pt] [] pos) (tV X.K W (isEM es xs (c :: cs) m)) :=
  PE.imp (pe_callB call_isiYT hg hm hv (pa_cons he (pa_cons (pe_tupX hc) pa_nil hs2) hs) (by decide) (by decide) hs hpl) fun σ H Q ⟨Γ, δ, γ, r, p⟩ => ⟨Γ, δ, γ, r, (Post.bind p).imp fun s δ1 p1 v H1 r1 => by
    cases h1 : datS δ1 s with
    | none => simp only [h1] at p1; exact False.elim p1
    | some d =>
      simp only [h1] at p1
      cases h2 : isAny es xs d (c :: cs) with
      | none => simp only [h2] at p1; exact False.elim p1
      | some b =>
        simp only [h2] at p1
        refine ⟨by rw [List.length_map]; have := million; omega, true, fun q o hq ho => ?_⟩
        have s := same_upd (o := tupO true o ((c :: cs).map (ClsN.v X.K))) hq
        have r2 := r1.same s
        have ht := r2.top (List.mem_cons_self) h1
        exact ⟨v, q, _, _, _, b, rfl, upd_same, cls_all _, top_ty E ht fun e q => isAny_exc h2 q, isAny_kit E h2, p1 _ _ ⟨r2.len, r2.pop.rel.push rfl ⟨_, rfl, .bl b⟩⟩⟩⟩
end
end DL

set_option Elab.async false
set_option linter.all false
set_option maxRecDepth 100000
set_option maxHeartbeats 1000000
namespace DL
open PySem PySem.Spec PyProof.Rows L2
/-! ### errors, read from the end -/
inductive wE (x : SRes) (E : Ex → List Sl → Prop) : Prop
  | mk (e : Ex) (δ : List Sl) (h : x = .er e δ) (q : E e δ)
inductive wME {α : Type} (x : Res α) (E : Ex → List Sl → Prop) : Prop
  | mk (e : Ex) (δ : List Sl) (h : x = .er e δ) (q : E e δ)
inductive wFE (x : FRes) (E : Ex → Prop) : Prop
  | mk (e : Ex) (h : x = .er e) (q : E e)
section
variable {E : Ex → List Sl → Prop} {N : List Sl → Prop} {T : Sl → List Sl → Prop} {B C : List Sl → Prop} {s t : SM} {m : M Sl} {c : M Bool} {ms : M (List Sl)} {g : GM} {δ : List Sl} {i : Nat} {tab : Str → Option Bool}
theorem wE.mono {x : SRes} {E' : Ex → List Sl → Prop} (h : wE x E) (f : ∀ e δ, E e δ → E' e δ) : wE x E' := let ⟨e, δ, h, q⟩ := h; ⟨e, δ, h, f _ _ q⟩
theorem wFE.mono {x : FRes} {E E' : Ex → Prop} (h : wFE x E) (f : ∀ e, E e → E' e) : wFE x E' := let ⟨e, h, q⟩ := h; ⟨e, h, f _ q⟩
theorem wE_raise {x : Str} (h : E ⟨x, none⟩ δ) : wE (raiseS x δ) E := ⟨_, _, rfl, h⟩
theorem wE_seq1 (h : wE (s δ) E) : wE (seqS s t δ) E := by
  obtain ⟨e, δ1, h, q⟩ := h
  exact ⟨e, δ1, by unfold seqS; rw [h], q⟩
theorem wE_seq2 (h : wS (s δ) (fun δ1 => wE (t δ1) E) (fun _ _ => False) (fun _ => False) (fun _ => False)) : wE (seqS s t δ) E := by
  cases h with
  | nx δ1 h q =>
    obtain ⟨e, δ2, h2, q⟩ := q
    exact ⟨e, δ2, by unfold seqS; rw [h]; exact h2, q⟩
  | rt _ _ _ q => exact q.elim
  | bk _ _ q => exact q.elim
  | ct _ _ q => exact q.elim
theorem wE_if (h : wM (c δ) fun b δ1 => (b = true → wE (s δ1) E) ∧ (b = false → wE (t δ1) E)) : wE (ifS c s t δ) E := by
  obtain ⟨b, δ1, h, q1, q2⟩ := h
  cases b with
  | true => obtain ⟨e, δ2, h2, q⟩ := q1 rfl; exact ⟨e, δ2, by unfold ifS M.toS; rw [h]; exact h2, q⟩
  | false => obtain ⟨e, δ2, h2, q⟩ := q2 rfl; exact ⟨e, δ2, by unfold ifS M.toS; rw [h]; exact h2, q⟩
theorem wE_expr (h : wME (m δ) E) : wE (exprS m δ) E := by
  obtain ⟨e, δ1, h, q⟩ := h
  exact ⟨e, δ1, by unfold exprS M.toS; rw [h], q⟩
theorem wE_set (h : wME (m δ) E) : wE (setS m g δ) E := by
  obtain ⟨e, δ1, h, q⟩ := h
  exact ⟨e, δ1, by unfold setS M.toS; rw [h], q⟩
theorem wE_ret (h : wME (m δ) E) : wE (retS m δ) E := by
  obtain ⟨e, δ1, h, q⟩ := h
  exact ⟨e, δ1, by unfold retS M.toS; rw [h], q⟩
theorem wME_callP {F : List PyData → FRes} (h : wM (ms δ) fun rs δ1 => match escs rs with
    | some ds => wFE (F ds) fun e => e.val = none ∧ E e δ1
    | none => False) : wME ((ms >>= callP F) δ) E := by
  obtain ⟨rs, δ1, h, q⟩ := h
  cases h1 : escs rs with
  | none => rw [h1] at q; exact q.elim
  | some ds =>
    rw [h1] at q
    obtain ⟨e, h2, hv, q⟩ := q
    refine ⟨e, δ1, ?_, q⟩
    show (ms δ).bind (callP F) = _
    rw [h]
    show callP F rs δ1 = _
    unfold callP
    rw [h1]
    dsimp only
    rw [h2]
    dsimp only
    rw [hv]
    rfl
theorem wFE_runP {n : Nat} {ds : List PyData} {E : Ex → Prop} {m : SM} (h : wE (m (ds.map .sh ++ List.replicate (n - (ds.map Sl.sh).length) .no)) fun e _ => E e) : wFE (runP n m ds) E := by
  obtain ⟨e, δ, h, q⟩ := h
  refine ⟨e, ?_, q⟩
  unfold runP startD
  rw [h]
theorem wS_try_ok {mb : SM} (h : wS (s δ) N T B C) : wS (tryS i tab s mb δ) N T B C := by
  cases h with
  | nx δ1 h q => exact .nx δ1 (by unfold tryS; rw [h]) q
  | rt r δ1 h q => exact .rt r δ1 (by unfold tryS; rw [h]) q
  | bk δ1 h q => exact .bk δ1 (by unfold tryS; rw [h]) q
  | ct δ1 h q => exact .ct δ1 (by unfold tryS; rw [h]) q
theorem wS_try_er {mb : SM} (h : wE (s δ) fun e δ1 => e.val = none ∧ tab e.cls = some true ∧ wO (nameG i (.sh (errD e.cls)) δ1) fun δ2 => wS (mb δ2) (fun δ3 => N (δ3.set i .no)) (fun r δ3 => r.isAl = false ∧ T r (δ3.set i .no)) (fun δ3 => B (δ3.set i .no)) (fun δ3 => C (δ3.set i .no))) : wS (tryS i tab s mb δ) N T B C := by
  obtain ⟨e, δ1, h, hv, ht, δ2, h2, h3⟩ := h
  cases h3 with
  | nx δ3 h3 q => exact .nx _ (by unfold tryS; simp only [h, hv, ht, h2, h3, Option.isNone_none, if_true]) q
  | rt r δ3 h3 q => exact .rt r _ (by unfold tryS; simp only [h, hv, ht, h2, h3, Option.isNone_none, if_true, q.1, Bool.false_eq_true, if_false]) q.2
  | bk δ3 h3 q => exact .bk _ (by unfold tryS; simp only [h, hv, ht, h2, h3, Option.isNone_none, if_true]) q
  | ct δ3 h3 q => exact .ct _ (by unfold tryS; simp only [h, hv, ht, h2, h3, Option.isNone_none, if_true]) q
@[simp ↓] theorem wM_isE {es xs : List Str} {cs : List ClsN} {Q : Sl → List Sl → Prop} : wM (isEM es xs cs m δ) Q = wM (m δ) fun s δ1 => match datS δ1 s with
  | some d => wO (isAny es xs d cs) fun b => Q (.sh (.bool b)) δ1
  | none => False := by
  unfold isEM; refine wM_b fun s δ1 => ?_
  cases datS δ1 s with
  | none => exact wM_no
  | some d =>
    show wM (match isAny es xs d cs with
      | some b => .ok (.sh (.bool b)) δ1
      | none => .no) Q = wO (isAny es xs d cs) fun b => Q (.sh (.bool b)) δ1
    cases isAny es xs d cs with
    | none => rw [wO_none]; exact wM_no
    | some b => rw [wO_some]; exact wM_ok
end
/-- the clause of errors that may come -/
def tabE (es : List Str) (x e : Str) : Option Bool := if es.contains e = true then errB e x else none
theorem tabE_ok {K : PySem.W.Frag} {es xs : List Str} (E : ErrK K es xs) {x : Str} (hx : x ∈ xs) : ∀ e b, tabE es x e = some b → PySem.W.exmOne K (.ref (He.ga K e)) (.ref (He.ga K x)) = some b := fun e b h => by
  unfold tabE at h
  by_cases z : es.contains e = true
  · rw [if_pos z] at h; exact E.exm e (List.contains_iff_mem.mp z) x hx b h
  · rw [if_neg z] at h; cases h
/-! ### what the head says of the classes -/
def excCB (K : PySem.W.Frag) (D : Addr) : Bool := He.eqO (PySem.W.findIn K (.ref D) "__getattribute__") (some (some (.builtin "BaseException.__getattribute__"))) && (He.eqO (PySem.W.findIn K (.ref D) "__getattr__") (some none) && (decide (PySem.W.subIn K (.ref D) (.type "BaseException") = some true) && (PySem.W.hasDictIn K D &&
  (He.eqO (PySem.W.findIn K (.ref D) "__class__") (some (some (.builtin "object.__class__"))) && (He.eqO (PySem.W.specialIn K (.builtin "object.__class__") "__get__") (some (some (.builtin "getset_descriptor.__get__"))) &&
  (decide (PySem.W.takesIn K (.builtin "object.__class__") = some true) && decide (PySem.W.mroIn K D (.type "object") = some true)))))))
theorem excCB_ok {K : PySem.W.Frag} {D : Addr} (h : excCB K D = true) : ExcC K D := by
  obtain ⟨h1, h⟩ := He.ba h
  obtain ⟨h2, h⟩ := He.ba h
  obtain ⟨h3, h⟩ := He.ba h
  obtain ⟨h4, h⟩ := He.ba h
  obtain ⟨h5, h⟩ := He.ba h
  obtain ⟨h6, h⟩ := He.ba h
  obtain ⟨h7, h8⟩ := He.ba h
  exact ⟨He.eqO_ok h1, He.eqO_ok h2, of_decide_eq_true h3, h4, He.eqO_ok h5, He.eqO_ok h6, of_decide_eq_true h7, of_decide_eq_true h8⟩
def oneB (K : PySem.W.Frag) (e x : Str) : Bool := match errB e x with
  | some b => decide (PySem.W.kitOne K (.ref (He.ga K e)) (.ref (He.ga K x)) = some b) && decide (PySem.W.exmOne K (.ref (He.ga K e)) (.ref (He.ga K x)) = some b)
  | none => true
theorem oneB_ok {K : PySem.W.Frag} {e x : Str} (h : oneB K e x = true) {b : Bool} (hb : errB e x = some b) : PySem.W.kitOne K (.ref (He.ga K e)) (.ref (He.ga K x)) = some b ∧ PySem.W.exmOne K (.ref (He.ga K e)) (.ref (He.ga K x)) = some b := by
  unfold oneB at h
  rw [hb] at h
  obtain ⟨h1, h2⟩ := He.ba h
  exact ⟨of_decide_eq_true h1, of_decide_eq_true h2⟩
def errKB (es xs : List Str) (K : PySem.W.Frag) : Bool := (es.all fun e => excCB K (He.ga K e) && (decide (PySem.W.kitOne K (.ref (He.ga K e)) (.type "ValueError") = some true) && xs.all fun x => oneB K e x)) &&
  xs.all fun x => decide (PySem.W.kitOne K (.type "NoneType") (.ref (He.ga K x)) = some false)
theorem errKB_ok {es xs : List Str} {K : PySem.W.Frag} (h : errKB es xs K = true) : ErrK K es xs := by
  obtain ⟨h1, h2⟩ := He.ba h
  have f : ∀ e ∈ es, _ := List.all_eq_true.mp h1
  have g : ∀ x ∈ xs, _ := List.all_eq_true.mp h2
  refine ⟨fun e me x mx b hb => ?_, fun e me x mx b hb => ?_, fun e me => ?_, fun x mx => of_decide_eq_true (g x mx), fun e me => excCB_ok (He.ba (f e me)).1⟩
  · exact (oneB_ok (List.all_eq_true.mp (He.ba (He.ba (f e me)).2).2 x mx) hb).1
  · exact (oneB_ok (List.all_eq_true.mp (He.ba (He.ba (f e me)).2).2 x mx) hb).2
  · exact of_decide_eq_true (He.ba (He.ba (f e me)).2).1
/-- a hook with one more question -/
abbrev AlX : Type := He.AlD × Bool
def obsX (n : Nat) (fa : List He.Fa) (fn : List He.DefD) (bx : PySem.W.Frag → Bool) (g : Addr → Option Obj) : AlX := (He.obsDG n fa fn g, bx (He.frG g (He.asD g n)))
def SaysX (fa : List He.Fa) (fn : List He.DefD) (bx : PySem.W.Frag → Bool) (K : PySem.W.Frag) : Prop := He.SaysD fa fn K ∧ bx K = true
def hookX (n : Nat) (fa : List He.Fa) (fn : List He.DefD) (bx : PySem.W.Frag → Bool) : PySem.W.Hook where
  α := AlX
  obs := fun s => obsX n fa fn bx s.heap.get?
  val := fun _ => (He.valD fn, true)
  says := fun _ h => ∃ K : PySem.W.Frag, K.In h ∧ SaysX fa fn bx K
  of := fun _ _ e => ⟨_, He.frG_in, congrArg Prod.fst e, congrArg Prod.snd e⟩
  keeps := fun _ _ _ ⟨K, hK, c⟩ k => ⟨K, PySem.W.Frag.In.keeps hK k, c⟩
theorem obsX_eq {n : Nat} {fa : List He.Fa} {fn : List He.DefD} {bx : PySem.W.Frag → Bool} {g : Addr → Option Obj} {s : Shared} (h : ∀ a, g a = s.heap.get? a) : obsX n fa fn bx g = (hookX n fa fn bx).obs s := by
  have e : g = s.heap.get? := funext h
  rw [e] <;> rfl
end DL

set_option Elab.async false
set_option linter.all false
set_option maxRecDepth 100000
set_option maxHeartbeats 1000000
namespace DL
open PySem PySem.Spec PyProof.Rows L2
/-! ### tallies merged -/
def addM (s : List (Str × Int)) (p : Str × Int) : List (Str × Int) := put s p.1 ((val s p.1).getD 0 + p.2)
def sums (A B : List (Str × Int)) : List (Str × Int) := B.foldl addM A
theorem val_addM (s : List (Str × Int)) (p : Str × Int) (k : Str) : val (addM s p) k = if k = p.1 then some ((val s p.1).getD 0 + p.2) else val s k := val_put _ _ _ _
theorem put_nd {l : List (Str × Int)} (h : (l.map (·.1)).Nodup) (k : Str) (v : Int) : ((put l k v).map (·.1)).Nodup := by
  rw [put_keys]
  by_cases z : k ∈ l.map (·.1)
  · rw [if_pos z]; exact h
  · rw [if_neg z]
    exact List.nodup_append.mpr ⟨h, by simp, fun a ha b hb => by simp at hb; subst hb; exact fun e => z (e ▸ ha)⟩
theorem put_len (l : List (Str × Int)) (k : Str) (v : Int) : (put l k v).length ≤ l.length + 1 := by
  have e := congrArg List.length (put_keys l k v)
  rw [List.length_map] at e
  rw [e]
  by_cases z : k ∈ l.map (·.1)
  · rw [if_pos z]; simp
  · rw [if_neg z]; simp
theorem sums_nd : ∀ {B A : List (Str × Int)}, (A.map (·.1)).Nodup → ((sums A B).map (·.1)).Nodup
  | [], _, h => h
  | p :: B, A, h => sums_nd (B := B) (put_nd h _ _)
theorem sums_len : ∀ {B A : List (Str × Int)}, (sums A B).length ≤ A.length + B.length
  | [], A => Nat.le_refl _
  | p :: B, A => by
    have h := sums_len (B := B) (A := addM A p)
    have h2 := put_len A p.1 ((val A p.1).getD 0 + p.2)
    show (sums (addM A p) B).length ≤ A.length + (B.length + 1)
    have : (addM A p).length ≤ A.length + 1 := h2
    omega
theorem val_sums : ∀ {B A : List (Str × Int)}, (B.map (·.1)).Nodup → ∀ k, val (sums A B) k = match val B k with
    | some v => some ((val A k).getD 0 + v)
    | none => val A k
  | [], A, _, k => rfl
  | p :: B, A, nd, k => by
    rw [List.map_cons, List.nodup_cons] at nd
    show val (sums (addM A p) B) k = _
    rw [val_sums nd.2 k, val_addM]
    by_cases h : p.1 = k
    · subst h
      rw [val_pos (p := p) rfl, val_none.mpr nd.1, if_pos rfl]
    · rw [val_neg h, if_neg (Ne.symm h)]
theorem sums_nil : ∀ {B acc : List (Str × Int)}, ((acc ++ B).map (·.1)).Nodup → sums acc B = acc ++ B
  | [], acc, _ => by simp [sums]
  | p :: B, acc, nd => by
    have hn : p.1 ∉ acc.map (·.1) := by
      rw [List.map_append, List.nodup_append] at nd
      exact fun z => nd.2.2 _ z p.1 (by simp) rfl
    show sums (addM acc p) B = _
    have e : addM acc p = acc ++ [p] := by
      unfold addM
      rw [val_none.mpr hn, put_new hn]
      simp
    rw [e, sums_nil (by simpa using nd)]
    simp
theorem sums_all {A B : List (Str × Int)} (h : (A.map (·.1)).Nodup) : (A ++ B).foldl addM [] = sums A B := by
  rw [List.foldl_append]
  have := sums_nil (B := A) (acc := []) (by simpa using h)
  have e : A.foldl addM [] = A := by simpa [sums] using this
  rw [e]
  rfl
theorem sums_comm {A B : List (Str × Int)} (ha : (A.map (·.1)).Nodup) (hb : (B.map (·.1)).Nodup) (k : Str) : val (sums A B) k = val (sums B A) k := by
  rw [val_sums hb, val_sums ha]
  cases val A k <;> cases val B k <;> simp
  omega
theorem mem_keys {l : List (Str × Int)} {k : Str} : k ∈ l.map (·.1) ↔ (val l k).isSome = true := by
  cases h : val l k with
  | none => simp only [Option.isSome_none, Bool.false_eq_true, iff_false]; exact val_none.mp h
  | some v =>
    simp only [Option.isSome_some, iff_true]
    exact Classical.byContradiction fun z => by rw [val_none.mpr z] at h; cases h
theorem nodup_perm {α : Type} [DecidableEq α] {l m : List α} (hl : l.Nodup) (hm : m.Nodup) (h : ∀ a, a ∈ l ↔ a ∈ m) : l.Perm m := by
  rw [List.perm_iff_count]
  intro a
  rw [hl.count, hm.count]
  by_cases z : a ∈ l
  · rw [if_pos z, if_pos ((h a).mp z)]
  · rw [if_neg z, if_neg fun y => z ((h a).mpr y)]
theorem keys_perm {l m : List (Str × Int)} (hl : (l.map (·.1)).Nodup) (hm : (m.map (·.1)).Nodup) (h : ∀ k, val l k = val m k) : (l.map (·.1)).Perm (m.map (·.1)) :=
  nodup_perm hl hm fun k => by rw [mem_keys, mem_keys, h]
theorem srtS_congr {l m : List Str} (h : l.Perm m) : srtS l = srtS m :=
  List.Perm.eq_of_pairwise (le := fun a b => leS a b = true) (fun a b _ _ h1 h2 => leS_anti h1 h2) (srtS_pw l) (srtS_pw m) ((srtS_perm l).trans (h.trans (srtS_perm m).symm))
theorem srtI_congr {l m : List Int} (h : l.Perm m) : srtI l = srtI m := (srtI_eq ((srtI_perm l).trans h) (srtI_pw l))
theorem srtD_congr {l m : List (Str × Int)} (hl : (l.map (·.1)).Nodup) (hm : (m.map (·.1)).Nodup) (h : ∀ k, val l k = val m k) : srtD l = srtD m := by
  unfold srtD
  rw [srtS_congr (keys_perm hl hm h)]
  exact List.map_congr_left fun k _ => by rw [h]
theorem vals_perm {l m : List (Str × Int)} (hl : (l.map (·.1)).Nodup) (hm : (m.map (·.1)).Nodup) (h : ∀ k, val l k = val m k) : (vals l).Perm (vals m) := by
  have e := srtD_congr hl hm h
  have p : l.Perm m := (srtD_perm hl).symm.trans (e ▸ srtD_perm hm)
  exact p.map _
theorem leS_of_lt {a b : Str} (h : ltS a b) : leS a b = true := decide_eq_true (List.le_of_lt h)
theorem srtS_id {l : List Str} (h : l.Pairwise ltS) : srtS l = l :=
  List.Perm.eq_of_pairwise (le := fun a b => leS a b = true) (fun a b _ _ h1 h2 => leS_anti h1 h2) (srtS_pw l) (h.imp leS_of_lt) (srtS_perm l)
theorem srtD_id {l : List (Str × Int)} (h : Rise l) : srtD l = l := by
  unfold srtD
  rw [srtS_id h, List.map_map]
  have : l.map ((fun k => (k, (val l k).getD 0)) ∘ fun p => p.1) = l.map id := List.map_congr_left fun p m => by
    show (p.1, (val l p.1).getD 0) = p
    rw [val_mem h.nd m]
    rfl
  rw [this, List.map_id]
/-- the cut of sums at a room -/
def cutO (r : Int) (s : List (Str × Int)) : Int := if (s.length : Int) ≤ r then 0 else (srtI (vals s)).getD (s.length - r.toNat - 1) 0
theorem cutO_congr {r : Int} {l m : List (Str × Int)} (hl : (l.map (·.1)).Nodup) (hm : (m.map (·.1)).Nodup) (h : ∀ k, val l k = val m k) : cutO r l = cutO r m := by
  have p := vals_perm hl hm h
  have e := p.length_eq
  unfold vals at e
  rw [List.length_map, List.length_map] at e
  unfold cutO
  rw [srtI_congr p, e]
/-- what is above the cut -/
def above (s : List (Str × Int)) (c : Int) : List (Str × Int) := ((srtD s).filter fun p => decide (c < p.2)).map fun p => (p.1, p.2 - c)
def Tl.mrg (T U : Tl) : Tl := ⟨T.room, above (sums T.cts U.cts) (cutO T.room (sums T.cts U.cts)), T.lt + U.lt + cutO T.room (sums T.cts U.cts), T.tot + U.tot⟩
theorem Tl.mrg_comm {T U : Tl} (hr : T.room = U.room) (ht : Rise T.cts) (hu : Rise U.cts) : T.mrg U = U.mrg T := by
  have h := sums_comm ht.nd hu.nd
  have e1 := cutO_congr (r := T.room) (sums_nd ht.nd) (sums_nd hu.nd) h
  have e2 := srtD_congr (sums_nd ht.nd) (sums_nd hu.nd) h
  unfold Tl.mrg above
  rw [e1, e2, hr, Int.add_comm T.lt, Int.add_comm T.tot]
theorem above0 {l : List (Str × Int)} (h : Rise l) (c : ∀ p ∈ l, 1 ≤ p.2) : above l 0 = l := by
  unfold above
  rw [srtD_id h, List.filter_eq_self.mpr (fun p m => decide_eq_true (by have := c p m; omega))]
  have : l.map (fun p => (p.1, p.2 - 0)) = l.map id := List.map_congr_left fun p _ => by simp
  rw [this, List.map_id]
/-- a tally of nothing -/
def Tl.none (r : Int) : Tl := ⟨r, [], 0, 0⟩
theorem Tl.mrg_none {T : Tl} (h : Tl.Ok T) (r : Int) : T.mrg (Tl.none r) = T := by
  have e : sums T.cts (Tl.none r).cts = T.cts := rfl
  have c : cutO T.room T.cts = 0 := if_pos h.len
  unfold Tl.mrg
  rw [e, c, above0 h.rise h.c1]
  show (⟨T.room, T.cts, T.lt + 0 + 0, T.tot + 0⟩ : Tl) = T
  rw [Int.add_zero, Int.add_zero, Int.add_zero]
theorem Tl.none_mrg {T : Tl} (h : Tl.Ok T) : (Tl.none T.room).mrg T = T := by
  rw [Tl.mrg_comm (T := Tl.none T.room) (U := T) rfl List.Pairwise.nil h.rise, Tl.mrg_none h]
theorem above_mem {s : List (Str × Int)} {c : Int} (nd : (s.map (·.1)).Nodup) {p : Str × Int} (m : p ∈ above s c) : p.1 ∈ s.map (·.1) := by
  unfold above at m
  obtain ⟨q, mq, rfl⟩ := List.mem_map.mp m
  exact List.mem_map.mpr ⟨q, (srtD_perm nd).mem_iff.mp (List.mem_filter.mp mq).1, rfl⟩
theorem sums_mem {A B : List (Str × Int)} (hb : (B.map (·.1)).Nodup) {k : Str} (m : k ∈ (sums A B).map (·.1)) : k ∈ A.map (·.1) ∨ k ∈ B.map (·.1) := by
  rw [mem_keys, val_sums hb] at m
  rw [mem_keys, mem_keys]
  cases h : val B k with
  | none => rw [h] at m; exact .inl m
  | some v => exact .inr rfl
theorem Tl.mrg_strs {T U : Tl} (ht : Rise T.cts) (hu : Rise U.cts) (st : ∀ p ∈ T.cts, PyData.strOk p.1 = true) (su : ∀ p ∈ U.cts, PyData.strOk p.1 = true) : ∀ p ∈ (T.mrg U).cts, PyData.strOk p.1 = true := fun p m => by
  rcases sums_mem hu.nd (above_mem (sums_nd ht.nd) m) with h | h
  · obtain ⟨q, mq, e⟩ := List.mem_map.mp h
    rw [← e]; exact st q mq
  · obtain ⟨q, mq, e⟩ := List.mem_map.mp h
    rw [← e]; exact su q mq
/-- the pairs above the cut, as the comprehension over the marks tells them -/
theorem above_C (s : List (Str × Int)) (c : Int) : ((srtS (s.map (·.1))).filter fun k => decide (c < (val s k).getD 0)).map (fun k => PyData.tuple [.str k, .int ((val s k).getD 0 - c)]) = C (above s c) := by
  unfold C above srtD
  rw [List.filter_map, List.map_map, List.map_map]
  rfl
theorem cut_at {s : List (Str × Int)} {r : Int} (h0 : 0 ≤ r) (h : r < s.length) {Q : PyData → Prop} (q : Q (.int (cutO r s))) : wO (atI ((srtI (vals s)).map PyData.int) ((s.length : Int) - r - 1)) Q := by
  have hl : (srtI (vals s)).length = s.length := by rw [(srtI_perm _).length_eq]; simp [vals]
  refine at_ok (by omega) (by rw [List.length_map, hl]; omega) ?_
  rw [List.getElem_map]
  unfold cutO at q
  rw [if_neg (by omega), List.getD_eq_getElem?_getD] at q
  have e : ((s.length : Int) - r - 1).toNat = s.length - r.toNat - 1 := by omega
  have hb : s.length - r.toNat - 1 < (srtI (vals s)).length := by omega
  rw [List.getElem?_eq_getElem hb] at q
  simp only [e]
  exact q
theorem cut_rev {s : List (Str × Int)} {r : Int} (h0 : 0 ≤ r) (h : r < s.length) {Q : PyData → Prop} (q : Q (.int (cutO r s))) : wO (atI ((srtI (vals s)).map PyData.int).reverse r) Q := by
  have hl : (srtI (vals s)).length = s.length := by rw [(srtI_perm _).length_eq]; simp [vals]
  refine at_ok (by omega) (by rw [List.length_reverse, List.length_map, hl]; omega) ?_
  rw [List.getElem_reverse, List.getElem_map]
  unfold cutO at q
  rw [if_neg (by omega), List.getD_eq_getElem?_getD] at q
  have hb : s.length - r.toNat - 1 < (srtI (vals s)).length := by omega
  rw [List.getElem?_eq_getElem hb] at q
  have e : ((srtI (vals s)).map PyData.int).length - 1 - r.toNat = s.length - r.toNat - 1 := by rw [List.length_map, hl]; omega
  simp only [e]
  exact q
@[simp ↓] theorem wg_sortI {l : List Int} {δ : List Sl} {Q : Sl → List Sl → Prop} : wG (gSortI [.list (l.map .int)]) δ Q = Q (.ow (.list ((srtI l).map .int))) δ := by
  have e : gSortI [.list (l.map .int)] = some (.nw (.list ((srtI l).map .int))) := by
    show (ints? (l.map .int)).map (fun ns => Out.nw (.list ((srtI ns).map .int))) = _
    rw [ints_of]
    rfl
  rw [e]
  exact wG_some
@[simp] theorem tyB_T {T : Tl} {X : String} : tyB T.d X = kitB "tuple" X := rfl
@[simp] theorem tyB_t {T : Th} {X : String} : tyB T.d X = kitB "tuple" X := rfl
end DL

set_option Elab.async false
set_option linter.all false
set_option maxRecDepth 100000
set_option maxHeartbeats 1000000
namespace DL
open PySem PySem.Spec PyProof.Rows L2
section
variable {K : PySem.W.Frag}
/-- int of an int, of a bool -/
def gInt1 : List PyData → Option Out
  | [.int i] => some (.sh (.int i))
  | [.bool b] => some (.sh (.int (if b then 1 else 0)))
  | _ => none
theorem i_int1 : Impl K (fun xs H Q => (∃ i, xs = [.int i] ∧ Q (.int i) H) ∨ ∃ k, xs = [.bl k] ∧ Q (.int (if k then 1 else 0)) H) gInt1 := by
  intro N H vs ds o Q h g q
  unfold gInt1 at g
  split at g
  · obtain ⟨v, rfl, h1⟩ := h.one
    cases g
    exact .inl ⟨_, by rw [h1.int], q H _ (.refl _) (.int _)⟩
  · obtain ⟨v, rfl, h1⟩ := h.one
    cases g
    exact .inr ⟨_, by rw [h1.bl], q H _ (.refl _) (.int _)⟩
  · cases g
/-- a whole number's text -/
def gStr1 : List PyData → Option Out
  | [.int i] => if i.natAbs.log2 < 1920 then some (.sh (.str (toString i))) else none
  | _ => none
theorem i_str1 : Impl K (fun xs H Q => ∃ i, xs = [.int i] ∧ i.natAbs.log2 < 1920 ∧ Q (.str (toString i)) H) gStr1 := by
  intro N H vs ds o Q h g q
  unfold gStr1 at g
  split at g
  · obtain ⟨v, rfl, h1⟩ := h.one
    split at g
    · rename_i i hz
      cases g
      exact ⟨_, by rw [h1.int], hz, q H _ (.refl _) (.str _)⟩
    · cases g
  · cases g
/-- is, is not of bools -/
def gIsB (neg : Bool) : List PyData → Option Out
  | [.bool a, .bool b] => some (.sh (.bool (if neg then !decide (a = b) else decide (a = b))))
  | _ => none
theorem i_isB : Impl K (L2r rIsB) (gIsB false) := by
  intro N H vs ds o Q h g q
  unfold gIsB at g
  split at g
  · obtain ⟨v, w, rfl, h1, h2⟩ := h.two
    cases g
    exact ⟨_, _, h1.bl, h2.bl, q H _ (.refl _) (.bl _)⟩
  · cases g
theorem i_notB : Impl K (L2r rNotB) (gIsB true) := by
  intro N H vs ds o Q h g q
  unfold gIsB at g
  split at g
  · obtain ⟨v, w, rfl, h1, h2⟩ := h.two
    cases g
    exact ⟨_, _, h1.bl, h2.bl, q H _ (.refl _) (.bl _)⟩
  · cases g
end
section
variable {δ : List Sl} {Q : Sl → List Sl → Prop}
@[simp ↓] theorem wg_int1 {i : Int} : wG (gInt1 [.int i]) δ Q = Q (.sh (.int i)) δ := wG_some
@[simp ↓] theorem wg_int1b {b : Bool} : wG (gInt1 [.bool b]) δ Q = Q (.sh (.int (if b then 1 else 0))) δ := wG_some
@[simp ↓] theorem wg_str1 {i : Int} : wG (gStr1 [.int i]) δ Q = (i.natAbs.log2 < 1920 ∧ Q (.sh (.str (toString i))) δ) := wG_if
@[simp ↓] theorem wg_isB {neg a b : Bool} : wG (gIsB neg [.bool a, .bool b]) δ Q = Q (.sh (.bool (if neg then !decide (a = b) else decide (a = b)))) δ := wG_some
end
def gUpper : List PyData → Option Out
  | [.str a] => if a.length ≤ 5592405 then some (.sh (.str (Txt.upper a))) else none
  | _ => none
theorem im_upper {K : PySem.W.Frag} : Impl K (Lmr fun x xs H Q => ∃ a, x = .str a ∧ xs = [] ∧ a.length ≤ 5592405 ∧ Q (.str (Txt.upper a)) H) gUpper := by
  intro N H vs ds o Q h g q
  unfold gUpper at g
  split at g
  · obtain ⟨v, rfl, h1⟩ := h.one
    split at g
    · rename_i hz
      cases g
      exact ⟨_, h1.str, rfl, hz, q H _ (.refl _) (.str _)⟩
    · cases g
  · cases g
@[simp ↓] theorem wg_upper {δ : List Sl} {Q : Sl → List Sl → Prop} {a : Str} : wG (gUpper [.str a]) δ Q = (a.length ≤ 5592405 ∧ Q (.sh (.str (Txt.upper a))) δ) := wG_if
/-- one of some things -/
theorem pickA {v : Int} {Q : PyData → Prop} {l : List PyData} (h0 : 0 ≤ v) (h1 : v < l.length) (q : ∀ m ∈ l, Q m) : wO (atI l v) Q := at_ok h0 h1 (q _ (List.getElem_mem _))
end DL

set_option Elab.async false
set_option linter.all false
set_option maxRecDepth 100000
set_option maxHeartbeats 1000000
namespace DL
open PySem PySem.Spec PyProof.Rows L2
/-! ### a, b = x, y -/
def parS (i j : Nat) (ms : M (List Sl)) : SM := M.toS ms fun rs δ => match rs with
  | [a, b] => match nameG i a δ with
    | some δ1 => match nameG j b δ1 with
      | some δ2 => .nx δ2
      | none => .no
    | none => .no
  | _ => .no
theorem nameG_al {i : Nat} {s : Sl} {δ δ' : List Sl} (h : nameG i s δ = some δ') : s.isAl = false := by
  unfold nameG at h
  cases q : δ[i]? with
  | none => simp only [q] at h; cases h
  | some o =>
    simp only [q] at h
    by_cases c : isIo o = true ∨ s.isAl = true ∨ isIo s = true
    · rw [if_pos c] at h; cases h
    · cases z : s.isAl with
      | false => rfl
      | true => exact absurd (.inr (.inl z)) c
section
variable {X : Cx} {W : XW} {pos : Pos}
theorem ds_par {i j : Nat} {x y : Str} {a b : Expr} {ms : M (List Sl)} {px py pt : Pos} {kt k2 pt2} (hc : X.calm = true) (hN : X.N.Nodup) (hi : X.N[i]? = some x) (hj : X.N[j]? = some y) (hij : i ≠ j)
    (hx : X.env.scope.names.lookup x = some .local) (hy : X.env.scope.names.lookup y = some .local) (ha : PA X [a, b] (tAs X.K W ms))
    (hw : swappedStores [.Tuple [.Name x px, .Name y py] kt pt] (.Tuple [a, b] k2 pt2) X.env = pure (some [x, y]) := by rfl)
    (hs : swapsWithSole [.Tuple [.Name x px, .Name y py] kt pt] (.Tuple [a, b] k2 pt2) pos.line X.env = pure false := by rfl) :
    PS X (.Assign [.Tuple [.Name x px, .Name y py] kt pt] (.Tuple [a, b] k2 pt2) pos) (tS X.K W (parS i j ms)) :=
  PS.imp (ps_par hc hN hi hj hij hx hy ha hw hs) fun D σ H ⟨Γ, δ, γ, r, na, p⟩ => ⟨Γ, δ, γ, r, (toS_post p).imp fun rs δ1 p1 vs H1 hl r1 => by
    match rs, p1, hl with
    | [], p1, _ => exact p1.elim
    | [_], p1, _ => exact p1.elim
    | _ :: _ :: _ :: _, p1, _ => exact p1.elim
    | [a, b], p1, hl =>
      match vs, hl with
      | [v, w], _ =>
        simp only at p1
        cases h1 : nameG i a δ1 with
        | none => simp only [h1] at p1; exact p1.elim
        | some δ2 =>
          simp only [h1] at p1
          cases h2 : nameG j b δ2 with
          | none => simp only [h2] at p1; exact p1.elim
          | some δ3 =>
            simp only [h2] at p1
            have hb := nameG_al h2
            have r2 := RS.store (γ := (some w, b) :: γ) r1 (fun e m => by
              rcases List.mem_cons.mp m with rfl | m
              · exact hb
              · exact na e m) h1
            exact ⟨v, w, rfl, p1 _ _ (r2.store na h2)⟩⟩
end
@[simp ↓] theorem wS_par {i j : Nat} {ms : M (List Sl)} {δ : List Sl} {N : List Sl → Prop} {T : Sl → List Sl → Prop} {B C : List Sl → Prop} : wS (parS i j ms δ) N T B C = wM (ms δ) fun rs δ1 => match rs with
  | [a, b] => wO (nameG i a δ1) fun δ2 => wO (nameG j b δ2) N
  | _ => False := by
  unfold parS
  rw [wS_to]
  refine wM_q fun rs δ1 => ?_
  match rs with
  | [] => exact wS_no
  | [_] => exact wS_no
  | _ :: _ :: _ :: _ => exact wS_no
  | [a, b] =>
    simp only
    cases nameG i a δ1 with
    | none => rw [wO_none]; exact wS_no
    | some δ2 =>
      rw [wO_some]
      simp only
      cases nameG j b δ2 with
      | none => rw [wO_none]; exact wS_no
      | some δ3 => rw [wO_some]; exact wS_nx
@[simp] theorem kitB_NoneType_dict : kitB "NoneType" "dict" = some false := by decide +kernel
@[simp] theorem kitB_NoneType_ValueError : kitB "NoneType" "ValueError" = some false := by decide +kernel
@[simp] theorem kitB_bool_dict : kitB "bool" "dict" = some false := by decide +kernel
@[simp] theorem kitB_bool_ValueError : kitB "bool" "ValueError" = some false := by decide +kernel
@[simp] theorem kitB_int_dict : kitB "int" "dict" = some false := by decide +kernel
@[simp] theorem kitB_int_ValueError : kitB "int" "ValueError" = some false := by decide +kernel
@[simp] theorem kitB_str_dict : kitB "str" "dict" = some false := by decide +kernel
@[simp] theorem kitB_str_ValueError : kitB "str" "ValueError" = some false := by decide +kernel
@[simp] theorem kitB_list_dict : kitB "list" "dict" = some false := by decide +kernel
@[simp] theorem kitB_list_ValueError : kitB "list" "ValueError" = some false := by decide +kernel
@[simp] theorem kitB_tuple_dict : kitB "tuple" "dict" = some false := by decide +kernel
@[simp] theorem kitB_tuple_ValueError : kitB "tuple" "ValueError" = some false := by decide +kernel
@[simp] theorem kitB_dict_dict : kitB "dict" "dict" = some true := by decide +kernel
@[simp] theorem kitB_dict_ValueError : kitB "dict" "ValueError" = some false := by decide +kernel
end DL
namespace DL
open PySem PySem.Spec PyProof.Rows L2
/-! ### the signs of a text, walked -/
def signs (z : Str) : List PyData := z.cps.toList.map fun c => .str ⟨#[c]⟩
def textM (m : M Sl) : M (List PyData) := m >>= fun s => fun δ => match s with
  | .sh (.str z) => .ok (signs z) δ
  | _ => .no
theorem yl_str {K : PySem.W.Frag} {x : Str} : Yl K (Its x) [] (signs x) := by
  intro Γ σ δ γ H r i
  have hl : (signs x).length = x.cps.size := by simp [signs]
  refine ⟨fun hlt => ?_, fun hle => ?_, fun y H' d hy hd => ?_⟩
  · show i < x.cps.size
    omega
  · show x.cps.size ≤ i
    omega
  · obtain ⟨rfl, c, hc, rfl⟩ := hy
    have e : d = .str ⟨#[c]⟩ := by
      unfold signs at hd
      rw [List.getElem?_map, Option.map_eq_some_iff] at hd
      obtain ⟨c', h1, rfl⟩ := hd
      rw [Array.getElem?_toList, hc] at h1
      cases h1
      rfl
    subst e
    exact ⟨r.len, r.rel.push rfl ⟨_, rfl, .str _⟩⟩
theorem di_text {X : Cx} {W : XW} {tg e : Expr} {m : M Sl} (he : PE X e (tV X.K W m)) : PI X tg e (tI X.K W (textM m)) :=
  PI.imp (pi_str he) fun σ H R ⟨Γ, δ, γ, r, p⟩ => ⟨Γ, δ, γ, r, (Post.bind p).imp fun s δ1 p1 v H1 r1 => by
    cases s with
    | sh d =>
      cases d with
      | str z =>
        have q := r1.get (List.mem_append_right _ List.mem_cons_self)
        cases q
        exact ⟨z, rfl, p1 _ _ [] (fun e m => nomatch m) r1.pop yl_str⟩
      | _ => exact False.elim p1
    | _ => exact False.elim p1⟩
@[simp ↓] theorem wM_text {m : M Sl} {δ : List Sl} {U : List PyData → List Sl → Prop} : wM (textM m δ) U = wM (m δ) fun s δ1 => match s with
  | .sh (.str z) => U (signs z) δ1
  | _ => False := by
  unfold textM; refine wM_b fun s δ1 => ?_
  cases s with
  | sh d => cases d <;> first | exact wM_no | exact wM_ok
  | _ => exact wM_no
@[simp ↓] theorem wg_inC {c : Nat} {z : Str} {δ : List Sl} {Q : Sl → List Sl → Prop} : wG (gIn false [.str ⟨#[c]⟩, .str z]) δ Q = Q (.sh (.bool (decide (c ∈ z.cps.toList)))) δ := wG_some
@[simp ↓] theorem wg_ninC {c : Nat} {z : Str} {δ : List Sl} {Q : Sl → List Sl → Prop} : wG (gIn true [.str ⟨#[c]⟩, .str z]) δ Q = Q (.sh (.bool (!decide (c ∈ z.cps.toList)))) δ := wG_some
end DL
namespace DL
open PySem PySem.Spec PyProof.Rows L2
def rGeA : R2 := fun x y H Q => rI0 (fun i j => .bl (decide (j ≤ i))) x y H Q ∨ ∃ i j, x = .str i ∧ y = .str j ∧ Q (.bl (!decide (i.cps.toList < j.cps.toList))) H
theorem op_geA {X : Cx} : OpR X (compareOp .GtE) rGeA := op_ge.or op_ge_str
def gGeA : List PyData → Option Out
  | [.int i, .int j] => some (.sh (.bool (decide (j ≤ i))))
  | [.str i, .str j] => some (.sh (.bool (!decide (i.cps.toList < j.cps.toList))))
  | _ => none
theorem i_geA {K : PySem.W.Frag} : Impl K (L2r rGeA) gGeA := by
  intro N H vs ds o Q h g q
  unfold gGeA at g
  split at g
  · obtain ⟨v, w, rfl, h1, h2⟩ := h.two
    cases g
    exact .inl ⟨_, _, h1.int, h2.int, q H _ (.refl _) (.bl _)⟩
  · obtain ⟨v, w, rfl, h1, h2⟩ := h.two
    cases g
    exact .inr ⟨_, _, h1.str, h2.str, q H _ (.refl _) (.bl _)⟩
  · cases g
section
variable {δ : List Sl} {Q : Sl → List Sl → Prop} {i j : Int} {a b : Str}
@[simp ↓] theorem wg_geI : wG (gGeA [.int i, .int j]) δ Q = Q (.sh (.bool (decide (j ≤ i)))) δ := wG_some
@[simp ↓] theorem wg_geS : wG (gGeA [.str a, .str b]) δ Q = Q (.sh (.bool (!decide (a.cps.toList < b.cps.toList)))) δ := wG_some
@[simp ↓] theorem wg_leS : wG (gLe [.str a, .str b]) δ Q = Q (.sh (.bool (!decide (b.cps.toList < a.cps.toList)))) δ := wG_some
end
end DL

set_option Elab.async false
set_option linter.all false
set_option maxRecDepth 100000
set_option maxHeartbeats 4000000
namespace DL
open PySem PySem.Spec PyProof.Rows L2
/-! ### a list, a tuple, a text times an int -/
def rRepX (K : PySem.W.Frag) : R2 := fun x y H Q => ∃ l k xs, x = .ref l ∧ y = .int k ∧ SqT K H l xs ∧ xs ≠ [] ∧ 2 ≤ k ∧ k ≤ 1000 ∧ xs.length ≤ 1000 ∧ ∃ b, ∀ p o, H p = none → TOk o → Q (.ref p) (upd H p (tupO b o (List.replicate k.toNat xs).flatten))
theorem op_repX {X : Cx} : OpR X (binaryOp .Mult) (rRepX X.K) := by
  intro pins s σ H x y v u Q I rx ry h
  obtain ⟨l, k, xs, rfl, rfl, hT, hne, h1, h2, hz, b, q⟩ := h
  cases rx
  obtain ⟨t, rfl⟩ := ry
  obtain ⟨its, r, ⟨⟨cls, dd, data, sl⟩, ho, hc, n, hd⟩, hs⟩ := I.tuple hT
  simp only at hc hd
  subst hc hd
  have hle : its.length = xs.length := r.length.symm
  have hn : its ≠ [] := fun e => hne (by
    rw [e] at hle
    exact List.eq_nil_of_length_eq_zero hle.symm)
  have hi : its.toArray.isEmpty = false := by
    cases its with
    | nil => exact absurd rfl hn
    | cons a b => rfl
  have hsz0 : its.toArray.size = xs.length := by rw [List.size_toArray, hle]
  have hm : ((its.toArray.size : Nat) : Int) * k ≤ 1000000 := by
    rw [hsz0]
    have a1 : ((xs.length : Nat) : Int) * k ≤ 1000 * k := Int.mul_le_mul_of_nonneg_right (by omega) (by omega)
    omega
  have flen : (List.replicate k.toNat its).flatten.length ≤ sizeLine := by
    rw [PyProof.Rows.lm_len_rep_flat, hle, sizeLine_eq]
    have a1 : k.toNat * xs.length ≤ 1000 * 1000 := Nat.mul_le_mul (by omega) hz
    omega
  have c0 : (decide (k < -(2 ^ 63)) || decide (k ≥ 2 ^ 63)) = false := by
    rw [decide_eq_false (by omega), decide_eq_false (by omega)] <;> rfl
  have c1 : (its.toArray.isEmpty || k == 1) = false := by
    rw [hi, Bool.false_or]
    exact beq_eq_false_iff_ne.mpr (by omega)
  have c2 : (decide (k ≤ 0) || its.toArray.isEmpty) = false := by
    rw [hi, Bool.or_false]
    exact decide_eq_false (by omega)
  have c4 : Builtin.Tuple.tupleTooMany (((its.toArray.size : Nat) : Int) * k) = false := by
    unfold Builtin.Tuple.tupleTooMany
    rw [sizeLine_eq]
    exact decide_eq_false (by omega)
  refine wpAny_binaryOp_repeat_ref (T := "tuple") (U := "int") (by decide) ⟨_, ho, rfl⟩ (fun s' => typeIs_int s' k t) noFill_tuple_mul PySem.F.fills_int_mul PySem.F.slot_int_rmul repeat_tuple PySem.F.slot_int_index.lookup
    (call_meets PySem.F.slot_int_rmul (typeIs_int s k t) PySem.F.entry_int_rmul (PySem.F.args_int_rmul_2 _ _) (int_rmul_tuple k t l its.toArray n dd sl)
      ⟨ho, rfl, ⟨_, ho, rfl⟩, call_meets PySem.F.slot_tuple_mul ⟨_, ho, rfl⟩ PySem.F.entry_tuple_mul (PySem.F.args_tuple_mul_2 _ _) (tuple_mulW l its.toArray n dd sl k t c0 c1 c2 (by omega) c4 (by rw [size_rep, List.size_toArray]; exact flen)) ⟨ho, ?_⟩⟩)
  rw [size_rep]
  exact ⟨.ref s.heap.objs.size, _, Inv.laidT (t' := s.toks) I b (by rw [PyProof.Rows.lm_len_rep_flat, sizeLine_eq]; have a1 : k.toNat * xs.length ≤ 1000 * 1000 := Nat.mul_le_mul (by omega) hz; omega) (r.rep k.toNat), rfl, q _ _ (Inv.newT I) to_tobj⟩
/-- a list's object, to the letter -/
theorem inv_llGet {X : Cx} {pins : List (Addr × Obj)} {σ : L2.St} {H : Hp} {s : Shared} {a : Addr} {xs : List V} (I : Inv X pins σ H s) (h : LL X.K H a xs) : ∃ (its : List Value) (n : Nat), Vals xs its ∧ s.heap.get? a = some { cls := .type "list", data := .seq its.toArray n } := by
  rcases h with (h | ⟨o, h⟩) | ⟨its, n, hk, hz, r⟩
  · obtain ⟨z, its, n, r, hl, e⟩ := I.lstM h
    exact ⟨its, n, r, e⟩
  · obtain ⟨_, z, its, n, r, h1⟩ := (show ObjOk X.prog X.w H s.heap a (.frz o (.lst xs)) from I.hok a _ h)
    exact ⟨its, n, r, h1⟩
  · exact ⟨its, n, r, I.kIn _ _ hk⟩
def rRepLL (K : PySem.W.Frag) : R2 := fun x y H Q => ∃ l k xs, x = .ref l ∧ y = .int k ∧ LL K H l xs ∧ -(2 ^ 63) ≤ k ∧ k < 2 ^ 63 ∧ xs.length * k.toNat ≤ sizeLine ∧
  ∀ p, H p = none → Q (.ref p) (upd H p (.lst (List.replicate k.toNat xs).flatten))
theorem op_repLL {X : Cx} : OpR X (binaryOp .Mult) (rRepLL X.K) := by
  intro pins s σ H x y v u Q I rx ry h
  obtain ⟨l, k, xs, rfl, rfl, hH, h1, h2, hz, q⟩ := h
  cases rx
  obtain ⟨t, rfl⟩ := ry
  obtain ⟨its, n, r, e⟩ := inv_llGet I hH
  have hl : xs.length = its.length := r.length
  have hlen : its.toArray.size * k.toNat ≤ sizeLine := by rw [List.size_toArray, ← hl]; exact hz
  have hcap : ¬ its.toArray.size * k.toNat > (2 ^ 63 - 1) / 8 := by
    have : (sizeLine : Nat) ≤ (2 ^ 63 - 1) / 8 := by decide
    omega
  have hfit : ¬ (!Builtin.List.listFitsIndex k) = true := by
    rw [fitsIndex_both h1 h2]
    exact Bool.false_ne_true
  have hlong : ¬ Builtin.List.listTooLong (its.toArray.size * k.toNat) = true := by
    rw [notLongL hlen]
    exact Bool.false_ne_true
  have hnew : List.foldl (fun x1 x2 => x1 ++ x2) #[] (List.replicate (if its.toArray.isEmpty = true then 0 else k.toNat) its.toArray) = (List.replicate k.toNat its).flatten.toArray := by
    have f0 : ∀ m : Nat, List.foldl (fun x1 x2 => x1 ++ x2) #[] (List.replicate m its.toArray) = (List.replicate m its).flatten.toArray := fun m => by
      have := foldl_rep its m []
      rw [List.nil_append] at this
      exact this
    rw [f0]
    cases its with
    | nil => simp
    | cons a r' => rw [if_neg (by simp)]
  refine wpAny_binaryOp_repeat_ref (T := "list") (U := "int") (by decide) ⟨_, e, rfl⟩ (fun s' => typeIs_int s' k t) noFill_list_mul PySem.F.fills_int_mul PySem.F.slot_int_rmul repeat_list PySem.F.slot_int_index.lookup
    (call_meets PySem.F.slot_int_rmul (typeIs_int s k t) PySem.F.entry_int_rmul (PySem.F.args_int_rmul_2 _ _) (int___rmul___int_list k t l its.toArray n)
      ⟨e, rfl, ⟨_, e, rfl⟩, call_meets PySem.F.slot_list_mul ⟨_, e, rfl⟩ PySem.F.entry_list_mul (PySem.F.args_list_mul_2 _ _) (AutoListH.list___mul___list_int_3 l its.toArray n k t hfit hcap hlong) ⟨e, ?_⟩⟩)
  rw [hnew]
  exact ⟨.ref _, _, I.lnew (t' := s.toks) (r.rep k.toNat) (by rw [PyProof.Rows.lm_len_rep_flat, Nat.mul_comm]; exact hz), rfl, q _ I.fresh⟩
/-- a text, so many times -/
def repS (x : Str) (k : Int) : Str := ⟨(List.replicate k.toNat x.cps).foldl (· ++ ·) #[]⟩
theorem foldl_size (n : Nat) (xs : Array Nat) : ∀ acc : Array Nat, ((List.replicate n xs).foldl (· ++ ·) acc).size = acc.size + n * xs.size := by
  induction n with
  | zero => intro acc; simp
  | succ n ih =>
    intro acc
    rw [List.replicate_succ, List.foldl_cons, ih, Array.size_append, Nat.succ_mul]
    omega
theorem repS_len (x : Str) (k : Int) : (repS x k).length = k.toNat * x.length := by
  show ((List.replicate k.toNat x.cps).foldl (· ++ ·) #[]).size = _
  rw [foldl_size]
  simp
  rfl
theorem repS_one (x : Str) : repS x 1 = x := by
  show (⟨#[] ++ x.cps⟩ : Str) = x
  rw [Array.empty_append]
def rRepS : R2 := fun x y H Q => ∃ z k, x = .str z ∧ y = .int k ∧ 0 < z.length ∧ z.length ≤ 1000 ∧ 1 ≤ k ∧ k ≤ 1000 ∧ Q (.str (repS z k)) H
theorem op_repS {X : Cx} : OpR X (binaryOp .Mult) rRepS := by
  intro pins s σ H x y v u Q I rx ry h
  obtain ⟨z, k, rfl, rfl, h1, h2, h3, h4, q⟩ := h
  obtain ⟨t, rfl⟩ := rx
  obtain ⟨t', rfl⟩ := ry
  have hm : z.length * k.toNat ≤ 1000 * 1000 := Nat.mul_le_mul h2 (by omega)
  refine PySem.P.mul_str (by rw [decide_eq_false (by omega), decide_eq_false (by omega)]; rfl) (fun _ _ => ?_) (fun _ _ => ?_) ?_
  · have : (1000 : Int) ≤ (2 ^ 63 - 1) / k := Int.le_ediv_of_mul_le (by omega) (by omega)
    omega
  · show decide (z.length * k.toNat > sizeLine) = false
    exact decide_eq_false (by rw [sizeLine_eq]; omega)
  · rw [if_neg (by omega)]
    by_cases h1k : k = 1
    · subst h1k
      rw [if_pos (by rfl)]
      rw [repS_one] at q
      exact ⟨.str z, H, I, ⟨_, rfl⟩, q⟩
    have c : (k == 1 || z.length == 0) = false := by
      rw [beq_eq_false_iff_ne.mpr h1k, beq_eq_false_iff_ne.mpr (by omega : z.length ≠ 0)]
      rfl
    rw [if_neg (by rw [c]; exact Bool.false_ne_true)]
    have hr : (repS z k).length ≤ sizeLine := by rw [repS_len, sizeLine_eq, Nat.mul_comm]; omega
    exact ⟨hr, .str (repS z k), H, I.tok _, ⟨_, rfl⟩, q⟩
def rMulB (K : PySem.W.Frag) : R2 := fun x y H Q => ((rI CMulW (fun i j => .int (i * j)) x y H Q ∨ rRepX K x y H Q) ∨ rRepLL K x y H Q) ∨ rRepS x y H Q
theorem op_mulB {X : Cx} : OpR X (binaryOp .Mult) (rMulB X.K) := ((op_mulW.or op_repX).or op_repLL).or op_repS
def gMulB : List PyData → Option Out
  | [.int i, .int j] => if mulOk i j = true then some (.sh (.int (i * j))) else none
  | [.tuple l, .int k] => if l ≠ [] ∧ 2 ≤ k ∧ k ≤ 1000 ∧ l.length ≤ 1000 then some (.sh (.tuple (List.replicate k.toNat l).flatten)) else none
  | [.list l, .int k] => if -1000000 ≤ k ∧ k ≤ 1000000 ∧ l.length * k.toNat ≤ 1000000 then some (.nw (.list (List.replicate k.toNat l).flatten)) else none
  | [.str z, .int k] => if 0 < z.length ∧ z.length ≤ 1000 ∧ 1 ≤ k ∧ k ≤ 1000 then some (.sh (.str (repS z k))) else none
  | _ => none
theorem i_mulB {K : PySem.W.Frag} : Impl K (L2r (rMulB K)) gMulB := by
  intro N H vs ds o Q h g q
  unfold gMulB at g
  split at g
  · obtain ⟨v, w, rfl, h1, h2⟩ := h.two
    split at g
    · rename_i hz
      cases g
      exact .inl (.inl (.inl ⟨_, _, h1.int, h2.int, show _ < _ from of_decide_eq_true hz, q H _ (.refl _) (.int _)⟩))
    · cases g
  · obtain ⟨v, w, rfl, h1, h2⟩ := h.two
    obtain ⟨a, xs, rfl, e1, r1⟩ := h1.tup
    rename_i l k
    split at g
    · rename_i hz
      cases g
      have hl := r1.length
      exact .inl (.inl (.inr ⟨a, k, xs, rfl, h2.int, e1, fun z => hz.1 (by rw [z] at hl; exact List.eq_nil_of_length_eq_zero hl.symm), hz.2.1, hz.2.2.1, by omega, _, fun p ob hp ho => q _ _ (same_upd hp) (.newT ho ((r1.rep _).old (same_upd hp)))⟩))
    · cases g
  · obtain ⟨v, w, rfl, h1, h2⟩ := h.two
    obtain ⟨a, xs, rfl, e1, r1⟩ := h1.list
    rename_i l k
    split at g
    · rename_i hz
      cases g
      have hl := r1.length
      have := million
      exact .inl (.inr ⟨a, k, xs, rfl, h2.int, e1, by omega, by omega, by rw [hl]; omega, fun p hp => q _ _ (same_upd hp) ⟨p, rfl, hp, _, upd_same, (r1.rep _).new (same_upd hp)⟩⟩)
    · cases g
  · obtain ⟨v, w, rfl, h1, h2⟩ := h.two
    split at g
    · rename_i hz
      cases g
      exact .inr ⟨_, _, h1.str, h2.int, hz.1, hz.2.1, hz.2.2.1, hz.2.2.2, q H _ (.refl _) (.str _)⟩
    · cases g
  · cases g
section
variable {δ : List Sl} {Q : Sl → List Sl → Prop} {i j k : Int} {l : List PyData} {z : Str}
@[simp ↓] theorem wg_mulBi : wG (gMulB [.int i, .int j]) δ Q = (mulOk i j = true ∧ Q (.sh (.int (i * j))) δ) := wG_if
@[simp ↓] theorem wg_mulBt : wG (gMulB [.tuple l, .int k]) δ Q = ((l ≠ [] ∧ 2 ≤ k ∧ k ≤ 1000 ∧ l.length ≤ 1000) ∧ Q (.sh (.tuple (List.replicate k.toNat l).flatten)) δ) := wG_if
@[simp ↓] theorem wg_mulBl : wG (gMulB [.list l, .int k]) δ Q = ((-1000000 ≤ k ∧ k ≤ 1000000 ∧ l.length * k.toNat ≤ 1000000) ∧ Q (.ow (.list (List.replicate k.toNat l).flatten)) δ) := wG_if
@[simp ↓] theorem wg_mulBs : wG (gMulB [.str z, .int k]) δ Q = ((0 < z.length ∧ z.length ≤ 1000 ∧ 1 ≤ k ∧ k ≤ 1000) ∧ Q (.sh (.str (repS z k))) δ) := wG_if
end
end DL

set_option Elab.async false
set_option linter.all false
set_option maxRecDepth 100000
set_option maxHeartbeats 4000000
namespace DL
open PySem PySem.Spec PyProof.Rows L2
/-! ### sorted(..) of data of one kind: ints, texts, tuples of such -/
def tup1 : PyData → Bool
  | .tuple (_ :: _) => true
  | _ => false
def noTup : PyData → Bool
  | .tuple _ => false
  | .none => false
  | _ => true
def sortOk (ds : List PyData) : Bool := (PyData.canLayAll0 ds && decide (PyData.depthAll ds ≤ 60)) && (decide (ds.length ≤ 1000000) && (ds.all (fun d => ds.all fun e => PySem.W.alike d e) && (ds.all tup1 || ds.all noTup)))
abbrev leG : PyData → PyData → Bool := PySem.W.dataLe false id
def srtG (ds : List PyData) : List PyData := ds.mergeSort leG
structure SortOk (ds : List PyData) : Prop where
  lay : PyData.canLayAll0 ds = true
  deep : PyData.depthAll ds ≤ 60
  len : ds.length ≤ 1000000
  like : PySem.W.AllAlike ds
  kind : PySem.W.Sortable ds
theorem tup1_ok {d : PyData} (h : tup1 d = true) : ∃ x r, d = .tuple (x :: r) := by
  unfold tup1 at h
  split at h
  · exact ⟨_, _, rfl⟩
  · cases h
theorem noTup_ok {d : PyData} (h : noTup d = true) : d ≠ .none ∧ ∀ xs, d ≠ .tuple xs := by
  refine ⟨fun z => ?_, fun xs z => ?_⟩ <;> rw [z] at h <;> cases h
theorem sortOk_ok {ds : List PyData} (h : sortOk ds = true) : SortOk ds := by
  unfold sortOk at h
  simp only [Bool.and_eq_true, Bool.or_eq_true, decide_eq_true_eq, List.all_eq_true] at h
  obtain ⟨⟨h1, h2⟩, h3, h4, h5⟩ := h
  exact ⟨h1, h2, h3, fun d hd e he => h4 d hd e he, h5.imp (fun k d hd => tup1_ok (k d hd)) fun k d hd => noTup_ok (k d hd)⟩
theorem depth_le_all : ∀ {ds : List PyData} {d : PyData}, d ∈ ds → d.depth ≤ PyData.depthAll ds
  | x :: r, d, h => by
    rw [PyData.depthAll]
    rcases List.mem_cons.mp h with rfl | h
    · exact Nat.le_max_left _ _
    · exact Nat.le_trans (depth_le_all h) (Nat.le_max_right _ _)
theorem each_zip {K : PySem.W.Frag} {H : Hp} : ∀ {xs : List V} {its : List Value} {ds : List PyData}, Vals xs its → DpAll K H xs ds → PySem.W.EachIs (fun v p => RelV p.1 v) its (xs.zip ds)
  | _, _, _, .nil, .nil => .nil
  | _, _, _, .cons r1 r2, .cons _ h2 => .cons r1 (each_zip r2 h2)
theorem zip_snd {K : PySem.W.Frag} {H : Hp} : ∀ {xs : List V} {ds : List PyData}, DpAll K H xs ds → (xs.zip ds).map Prod.snd = ds
  | _, _, .nil => rfl
  | _, _, .cons _ h2 => congrArg (_ :: ·) (zip_snd h2)
theorem zip_fst {K : PySem.W.Frag} {H : Hp} : ∀ {xs : List V} {ds : List PyData}, DpAll K H xs ds → (xs.zip ds).map Prod.fst = xs
  | _, _, .nil => rfl
  | _, _, .cons _ h2 => congrArg (_ :: ·) (zip_fst h2)
theorem each_vals : ∀ {out : List Value} {zs : List (V × PyData)}, PySem.W.EachIs (fun v p => RelV p.1 v) out zs → Vals (zs.map Prod.fst) out
  | _, _, .nil => .nil
  | _, _, .cons r1 r2 => .cons r1 (each_vals r2)
abbrev leZ : V × PyData → V × PyData → Bool := PySem.W.dataLe false Prod.snd
def rSortG (K : PySem.W.Frag) : List V → Hp → VK → Prop := fun vs H Q => ∃ (a : Addr) (xs : List V) (ds : List PyData), vs = [V.ref a] ∧ SqL K H a xs ∧ DpAll K H xs ds ∧ SortOk ds ∧
  ∀ p : Addr, H p = none → Q (.ref p) (upd H p (.lst (((xs.zip ds).mergeSort leZ).map Prod.fst)))
theorem cr_sortedG {X : Cx} (hu : X.A.units + 64 < cLine) : CallR X (.builtin "sorted") (rSortG X.K) := by
  intro pins s σ H vs us Q I r h
  obtain ⟨a, xs, ds, rfl, hs, hd, ok, q⟩ := h
  obtain ⟨its, rv, hl, hz⟩ := I.list hs
  rw [Vals.ref1 r]
  obtain ⟨as, rd⟩ := Dp.readsAll I ds xs its hd rv
  have ez := zip_snd hd
  have lz : (xs.zip ds).length = xs.length := by rw [← List.length_map (f := Prod.fst), zip_fst hd]
  refine PySem.W.sorted_data (bs := xs.zip ds) (enc := Prod.snd) (R := fun v p => RelV p.1 v) hl.isList (each_zip rv hd) (PySem.W.readsAll_each Prod.snd (by rw [ez]; exact rd)) (by rw [ez]; exact ok.like) (by rw [ez]; exact ok.kind) (by rw [lz]; exact hz) (fun b hb => ?_) fun out ho he => ?_
  · have h1 : b.2 ∈ ds := by rw [← ez]; exact List.mem_map.mpr ⟨b, hb, rfl⟩
    have := depth_le_all h1
    have := ok.deep
    omega
  · have hv := each_vals he
    obtain ⟨ep, he'⟩ := PyProof.Rows.sortedAll_at s.heap its (List.toArray out)
    have hlen : (((xs.zip ds).mergeSort leZ).map Prod.fst).length ≤ sizeLine := by
      rw [List.length_map, List.length_mergeSort, lz]
      exact hz
    exact ⟨.ref _, upd H (s.heap.objs.size + 1) (.lst (((xs.zip ds).mergeSort leZ).map Prod.fst)), I.laid (t' := s.toks) (fun _ _ => PyProof.Rows.sortedAll_old) (Nat.le_succ _) ⟨hlen, out, ep, hv, he'⟩, rfl, q _ (I.hok.fresh (Nat.le_succ _))⟩
theorem RA.zipR {K : PySem.W.Frag} {N : Addr → Prop} {H : Hp} : ∀ {xs : List V} {ds : List PyData}, RA K N H xs ds → ∀ p ∈ xs.zip ds, R K N H p.1 p.2
  | _, _, .nil, p, h => nomatch h
  | _, _, .cons h1 h2, p, h => by
    rcases List.mem_cons.mp h with rfl | h
    · exact h1
    · exact RA.zipR h2 p h
theorem RA.ofZ {K : PySem.W.Frag} {N : Addr → Prop} {H : Hp} : ∀ {zs : List (V × PyData)}, (∀ p ∈ zs, R K N H p.1 p.2) → RA K N H (zs.map Prod.fst) (zs.map Prod.snd)
  | [], _ => .nil
  | p :: zs, h => .cons (h p List.mem_cons_self) (RA.ofZ fun q m => h q (List.mem_cons_of_mem _ m))
theorem srtZ (zs : List (V × PyData)) : (zs.mergeSort leZ).map Prod.snd = srtG (zs.map Prod.snd) := by
  unfold srtG
  exact List.map_mergeSort fun a _ b _ => rfl
def gSortG : List PyData → Option Out
  | [.list ds] => if sortOk ds = true then some (.nw (.list (srtG ds))) else none
  | _ => none
theorem i_sortG {K : PySem.W.Frag} : Impl K (rSortG K) gSortG := by
  intro N H vs ds o Q h g q
  unfold gSortG at g
  split at g
  · rename_i l
    obtain ⟨v, rfl, h1⟩ := h.one
    split at g
    · rename_i hk
      cases g
      have ok := sortOk_ok hk
      obtain ⟨a, xs, rfl, e1, r1⟩ := h1.list
      have hd := r1.dp ok.lay
      refine ⟨a, xs, l, rfl, e1.sq, hd, ok, fun p hn => ?_⟩
      have e : srtG l = ((xs.zip l).mergeSort leZ).map Prod.snd := by rw [srtZ, zip_snd hd]
      rw [e] at q
      refine q _ _ (same_upd hn) ⟨p, rfl, hn, _, upd_same, RA.ofZ fun z m => ?_⟩
      have m2 := (List.mergeSort_perm (xs.zip l) leZ).mem_iff.mp m
      exact (r1.zipR z m2).mono (fun a n k => ⟨n, k⟩) (fun b u e _ => same_upd hn b u e) fun b u _ e => same_upd hn b u e
    · cases g
  · cases g
section
variable {δ : List Sl} {Q : Sl → List Sl → Prop} {l : List PyData}
@[simp ↓] theorem wg_sortG : wG (gSortG [.list l]) δ Q = (sortOk l = true ∧ Q (.ow (.list (srtG l))) δ) := wG_if
end
end DL

set_option Elab.async false
set_option linter.all false
set_option maxRecDepth 100000
set_option maxHeartbeats 4000000
namespace DL
open PySem PySem.Spec PyProof.Rows L2
/-! ### a tuple turned about -/
theorem all_pick {α : Type} : ∀ l : List α, (List.range l.length).filterMap (fun m => l[m]?) = l
  | [] => rfl
  | x :: l => by
    rw [List.length_cons, List.range_succ_eq_map, List.filterMap_cons]
    simp only [List.getElem?_cons_zero, List.filterMap_map]
    have : ((fun m => (x :: l)[m]?) ∘ Nat.succ) = fun m => l[m]? := by
      funext m
      simp
    rw [this, all_pick l]
theorem fm_congr {α β : Type} {f g : α → Option β} : ∀ {l : List α}, (∀ x ∈ l, f x = g x) → l.filterMap f = l.filterMap g
  | [], _ => rfl
  | x :: l, h => by
    rw [List.filterMap_cons, List.filterMap_cons, h x List.mem_cons_self, fm_congr fun y m => h y (List.mem_cons_of_mem _ m)]
theorem rev_pick {α : Type} (l : List α) : (List.range l.length).filterMap (fun m => l[l.length - 1 - m]?) = l.reverse := by
  have h : (List.range l.length).filterMap (fun m => l[l.length - 1 - m]?) = (List.range l.length).filterMap (fun m => l.reverse[m]?) := by
    refine fm_congr fun m hm => ?_
    rw [List.getElem?_reverse (List.mem_range.mp hm)]
  rw [h]
  have := all_pick l.reverse
  rwa [List.length_reverse] at this
theorem pick_rev (xs : Array Value) : ((List.range xs.size).filterMap fun (m : Nat) => xs[(((xs.size : Nat) : Int) - 1 + (m : Int) * (-1)).toNat]?).toArray = xs.toList.reverse.toArray := by
  congr 1
  rw [← rev_pick xs.toList, Array.length_toList]
  refine fm_congr fun m hm => ?_
  have h1 := List.mem_range.mp hm
  have e : (((xs.size : Nat) : Int) - 1 + (m : Int) * (-1)).toNat = xs.size - 1 - m := by omega
  rw [e, Array.getElem?_toList]
theorem adjust_rev (n : Nat) : Builtin.Slice.sliceAdjust none none (-1) (n : Int) = ((n : Int) - 1, -1) := by
  unfold Builtin.Slice.sliceAdjust
  simp
theorem places_rev (n : Nat) : Builtin.Slice.slicePlaces ((n : Int) - 1) (-1) (-1) = n := by
  unfold Builtin.Slice.slicePlaces
  have h1 : ¬ ((-1 : Int) > 0) := by omega
  simp only [h1, if_false, Int.neg_neg, Int.ediv_one]
  split <;> omega
section
variable {prog : Program} {w : World} {A : Around} {E : Value → Shared → Prop} {s : Shared}
theorem sliceApplied_rev {sl : Addr} {vl vu vs : Value} {n : Nat} {Q : Int × Int × Nat → Shared → Prop} (hs : s.heap.IsSliceOf sl vl vu vs) (pl : IsPart vl none) (pu : IsPart vu none) (ps : IsPart vs (some (-1)))
    (h : Q ((n : Int) - 1, -1, n) s) : wpAny (model prog w) A (Builtin.Slice.sliceApplied (.ref sl) (pure (n : Int))) Q E s := by
  obtain ⟨os, hos, hcs, hds⟩ := id hs
  unfold Builtin.Slice.sliceApplied Builtin.Slice.sliceFields
  refine wpAny_bind (wpAny_bind (wpAny_field hos hds (x := vl) rfl (wpAny_bind (wpAny_field hos hds (x := vu) rfl (wpAny_bind (wpAny_field hos hds (x := vs) rfl (wpAny_pure ?_)))))))
  refine wpAny_bind (HT.slicePart_ ps ?_)
  show wpAny _ _ (if ((-1 : Int) == 0) = true then _ else _) _ _ s
  rw [if_neg (by decide)]
  refine wpAny_bind (HT.slicePart_ pl (wpAny_bind (HT.slicePart_ pu (wpAny_bind (wpAny_pure ?_)))))
  show wpAny _ _ (match Builtin.Slice.sliceAdjust none none (-1) (n : Int) with | (lo, hi) => pure (lo, (-1 : Int), Builtin.Slice.slicePlaces lo hi (-1))) _ _ s
  rw [adjust_rev n]
  show wpAny _ _ (pure ((n : Int) - 1, (-1 : Int), Builtin.Slice.slicePlaces ((n : Int) - 1) (-1) (-1))) _ _ s
  rw [places_rev]
  exact wpAny_pure h
theorem getItem_tuple_rev {t sl : Addr} {items : Array Value} {vl vu vs : Value} {Q : Value → Shared → Prop} (ht : IsTup s.heap t items) (hs : s.heap.IsSliceOf sl vl vu vs) (pl : IsPart vl none) (pu : IsPart vu none) (ps : IsPart vs (some (-1)))
    (h : Q (.ref s.heap.objs.size) { s with heap := s.heap.push { cls := .type "tuple", data := .seq items.toList.reverse.toArray } })
    (hsz : items.size ≤ sizeLine) : wpAny (model prog w) A (getItem (.ref t) (.ref sl)) Q E s := by
  have htake : sizeOk (.seq items.toList.reverse.toArray) := by
    show items.toList.reverse.toArray.size ≤ sizeLine
    rw [List.size_toArray, List.length_reverse, Array.length_toList]
    exact hsz
  obtain ⟨os, hos, hcs, hds⟩ := id hs
  have hTs : s.TypeIs (.ref sl) "slice" := ⟨os, hos, hcs⟩
  unfold getItem
  try with_reducible refine wpAny_holding ?_
  first | refine wpAny_bind (wpAny_pure ?_) | skip
  refine wpAny_bind (wpAny_sequenceKey ht.typeIs (by decide) ?_)
  refine wpAny_bind (wpAny_callSpecial?_slot (name := Str.ofString "__getitem__") ht.typeIs PyProof.Rows.slot_tuple_getitem
    (wpAny_call_entry PyProof.Rows.slot_tuple_getitem ht.typeIs entry_tuple_getitem ?_ (args_tuple_getitem _ _)))
  show wpAny _ _ (Builtin.Tuple.tupleItemsOf (.ref t) >>= _) _ _ s
  refine wpAny_bind (PyProof.Rows.tupleItemsOf_ ht ?_)
  refine wpAny_bind (wpAny_typeOf hTs ?_)
  rw [if_pos (by decide)]
  refine wpAny_bind (sliceApplied_rev hs pl pu ps ?_)
  have hno : ¬ (((((items.size : Nat) : Int) - 1) == 0 && (-1 : Int) == 1 && items.size == items.size) = true) := by
    simp
  show wpAny _ _ (if ((((items.size : Nat) : Int) - 1) == 0 && (-1 : Int) == 1 && items.size == items.size) = true then _ else _) _ _ s
  rw [if_neg hno, pick_rev]
  first
    | exact wpAny_bind (m := Builtin.Tuple.tupleExact _) (wpAny_newObj_type (wpAny_pure ⟨_, rfl, wpAny_pure h⟩) htake)
    | exact wpAny_bind (m := Builtin.Tuple.tupleExact _) (wpAny_newObj_type (wpAny_bind (wpAny_pure (wpAny_pure ⟨_, rfl, wpAny_pure h⟩))) htake)
    | exact wpAny_bind (wpAny_bind (m := Builtin.Tuple.tupleExact _) (wpAny_newObj_type (wpAny_pure (wpAny_pure ⟨_, rfl, wpAny_pure h⟩)) htake))
    | exact wpAny_bind (wpAny_bind (m := Builtin.Tuple.tupleExact _) (wpAny_newObj_type (wpAny_pure ⟨_, rfl, wpAny_pure h⟩) htake))
end
def rRevA (K : PySem.W.Frag) (x : V) (H1 : Hp) (Q : VK) : Prop := (∃ a xs, x = .ref a ∧ SqL K H1 a xs ∧ ∀ p, H1 p = none → Q (.ref p) (upd H1 p (.lst xs.reverse))) ∨
  ∃ a xs, x = .ref a ∧ SqT K H1 a xs ∧ ∃ b, ∀ p o, H1 p = none → TOk o → Q (.ref p) (upd H1 p (tupO b o xs.reverse))
theorem pe_revA {X : Cx} {e : Expr} {te : TE} {k : Nat} {p1 p2 p3 pos : Pos} (he : PE X e te) : PE X (.Subscript e (.Slice none none (some (.UnaryOp .USub (.Constant (.int 1) k p1) p2)) p3) pos) (fun σ H Q => te σ H fun x H1 => rRevA X.K x H1 Q) := by
  refine ⟨fun pins s σ H Q I h => ?_⟩
  refine Subscript_ (thn (he.run pins s σ H _ I h) fun v s1 ⟨x, H1, I1, r1, q1⟩ => ?_)
  have hst : PO X (some (.UnaryOp .USub (.Constant (.int 1) k p1) p2)) (tPart (tUn (rU fun i => .int (-i)) (tC (.int 1)))) := po_some (pe_un un_neg pe_int)
  refine wpAny_Slice (thn (po_none.run pins s1 σ H1 (fun o H2 => o = none ∧ H2 = H1) I1 ⟨rfl, rfl⟩) fun vl s2 ⟨l, H2, I2, pl, el, e2⟩ => ?_)
  subst el e2
  refine thn (po_none.run pins s2 σ H2 (fun o H3 => o = none ∧ H3 = H2) I2 ⟨rfl, rfl⟩) fun vu s3 ⟨u, H3, I3, pu, eu, e3⟩ => ?_
  subst eu e3
  refine thn (hst.run pins s3 σ H3 (fun o H4 => o = some (-1) ∧ H4 = H3) I3 ⟨1, rfl, -1, rfl, rfl, rfl⟩) fun vs s4 ⟨o, H4, I4, ps, eo, e4⟩ => ?_
  subst eo e4
  have I5 : Inv X pins σ H4 { s4 with heap := s4.heap.push { cls := .type "slice", data := .fields #[vl, vu, vs] } } := I4.kept (t' := s4.toks) fun b ob q => Heap.get?_push_of_some _ q
  rcases q1 with ⟨a, xs, ex, hx, q⟩ | ⟨a, xs, ex, hx, b, q⟩
  · subst ex
    cases r1
    obtain ⟨its, r, ht, hz⟩ := I5.list hx
    have hlen := r.length
    show wpAny (model X.prog X.w) X.A (subscriptTail e (.Slice none none (some (.UnaryOp .USub (.Constant (.int 1) k p1) p2)) p3) (.ref a) (.ref s4.heap.objs.size)) (EP X pins σ Q) X.xe { s4 with heap := s4.heap.push { cls := .type "slice", data := .fields #[vl, vu, vs] } }
    refine tail_any (ops := [.ref a, .ref s4.heap.objs.size]) ht.isList.typeIs (PySem.slot_list_getitem.lookup) ?_ (by with_unfolding_all rfl)
    refine wpAny_getItem_list_slice ht.isList (Heap.IsSliceOf.new _ vl vu vs) pl pu ps (by decide) ?_ (by rw [List.size_toArray]; omega)
    rw [PySem.W.krv_pick]
    refine ⟨.ref _, _, I5.laid (t' := s4.toks) (o := .lst xs.reverse) (fun b ob q => Heap.get?_push_of_some _ q) (Nat.le_refl _) ?_, rfl, q _ (I5.hok.fresh (Nat.le_refl _))⟩
    exact ⟨by rw [List.length_reverse]; exact hz, _, 0, r.reverse, Heap.get?_push_size _ rfl⟩
  · subst ex
    cases r1
    obtain ⟨its, r, ht, hz⟩ := I5.tuple hx
    have hlen := r.length
    show wpAny (model X.prog X.w) X.A (subscriptTail e (.Slice none none (some (.UnaryOp .USub (.Constant (.int 1) k p1) p2)) p3) (.ref a) (.ref s4.heap.objs.size)) (EP X pins σ Q) X.xe { s4 with heap := s4.heap.push { cls := .type "slice", data := .fields #[vl, vu, vs] } }
    refine tail_any (ops := [.ref a, .ref s4.heap.objs.size]) ht.typeIs (PyProof.Rows.slot_tuple_getitem.lookup) ?_ (by with_unfolding_all rfl)
    refine getItem_tuple_rev ht (Heap.IsSliceOf.new _ vl vu vs) pl pu ps ?_ (by rw [List.size_toArray]; omega)
    exact ⟨.ref _, _, Inv.laidT (t' := s4.toks) I5 b (by rw [List.length_reverse]; exact hz) r.reverse, rfl, q _ _ (Inv.newT I5) to_tobj⟩
def gRevA : List PyData → Option Out
  | [.list l] => some (.nw (.list l.reverse))
  | [.tuple l] => some (.sh (.tuple l.reverse))
  | _ => none
theorem i_revA {K : PySem.W.Frag} : Impl K (L1r fun x H Q => rRevA K x H Q) gRevA := by
  intro N H vs ds o Q h g q
  unfold gRevA at g
  split at g
  · obtain ⟨v, rfl, h1⟩ := h.one
    cases g
    obtain ⟨a, xs, rfl, e1, r1⟩ := h1.list
    exact .inl ⟨a, xs, rfl, e1.sq, fun p hp => q _ _ (same_upd hp) ⟨p, rfl, hp, _, upd_same, r1.rev.new (same_upd hp)⟩⟩
  · obtain ⟨v, rfl, h1⟩ := h.one
    cases g
    obtain ⟨a, xs, rfl, e1, r1⟩ := h1.tup
    exact .inr ⟨a, xs, rfl, e1, _, fun p ob hp ho => q _ _ (same_upd hp) (.newT ho (r1.rev.old (same_upd hp)))⟩
  · cases g
section
variable {X : Cx} {W : XW} {pos : Pos}
theorem d_revA {e : Expr} {m : M Sl} {k : Nat} {p1 p2 p3 : Pos} (he : PE X e (tV X.K W m)) : PE X (.Subscript e (.Slice none none (some (.UnaryOp .USub (.Constant (.int 1) k p1) p2)) p3) pos) (tV X.K W (mUn gRevA m)) :=
  PE.imp (pe_revA he) fun σ H Q ⟨Γ, δ, γ, r, p⟩ => ⟨Γ, δ, γ, r, (Post.bind p).imp fun s δ1 p1 v H1 r1 =>
    run_op i_revA (vs := [v]) (rs := [s]) (γ' := γ) r1 (fun e m => by
      rcases List.mem_cons.mp m with rfl | m
      · exact List.mem_cons_self
      · cases m) rfl (p1.imp fun s' δ' k v' H'' r' => k v' H'' (drop1 (γ₀ := [(some v, s)]) r'))⟩
end
section
variable {δ : List Sl} {Q : Sl → List Sl → Prop} {l : List PyData}
@[simp ↓] theorem wg_revAl : wG (gRevA [.list l]) δ Q = Q (.ow (.list l.reverse)) δ := wG_some
@[simp ↓] theorem wg_revAt : wG (gRevA [.tuple l]) δ Q = Q (.sh (.tuple l.reverse)) δ := wG_some
end
section
variable {δ : List Sl} {m : M Sl} {t : M Bool} {g : GM} {vs : List Nat} {Q : List PyData → List Sl → Prop}
/-- a comprehension over data as they are -/
theorem wL_dat (l : List PyData) (p : PyData → Bool) (f : PyData → PyData) (hz : l.length ≤ 1000000)
    (h : ∀ x ∈ l, wO (g (.sh x) δ) fun δ1 => wM (t δ1) fun b δ2 => b = p x ∧ (b = true → wM (m δ2) fun s δ3 => esc s = some (f x) ∧ wipeD δ3 vs = δ) ∧ (b = false → wipeD δ2 vs = δ))
    (q : Q ((l.filter p).map f) δ) : wM (lcL g t m vs l [] δ) Q := by
  have := wL_mapT id l p f hz h q
  rwa [List.map_id] at this
end
end DL

set_option Elab.async false
set_option linter.all false
set_option maxRecDepth 100000
set_option maxHeartbeats 1000000
namespace DL
open PySem PySem.Spec PyProof.Rows L2
/-! ### things of all kinds; what is a tally -/
/-- things of all kinds, of a size that fits -/
inductive NcB (b : Int) : PyData → Prop
  | non : NcB b .none
  | bl (c : Bool) : NcB b (.bool c)
  | int {i : Int} (h1 : -b < i) (h2 : i < b) : NcB b (.int i)
  | str {s : Str} (h : s.length ≤ 10000) : NcB b (.str s)
  | lst {l : List PyData} (h : ∀ x ∈ l, NcB b x) (hz : l.length < 100) : NcB b (.list l)
  | tup {l : List PyData} (h : ∀ x ∈ l, NcB b x) (hz : l.length < 100) : NcB b (.tuple l)
  | dic : NcB b (.dict [])
abbrev Nc : PyData → Prop := NcB 1000000000000000000000000000000
theorem NcB.mono {b c : Int} (h : b ≤ c) : ∀ {d : PyData}, NcB b d → NcB c d
  | _, .non => .non
  | _, .bl _ => .bl _
  | _, .int h1 h2 => .int (by omega) (by omega)
  | _, .str h => .str h
  | _, .lst k hz => .lst (fun x m => (k x m).mono h) hz
  | _, .tup k hz => .tup (fun x m => (k x m).mono h) hz
  | _, .dic => .dic
def whole : PyData → Bool
  | .int _ => true
  | _ => false
def letters : Str := "abcdefghijklmnopqrstuvwxyz"
def word : PyData → Bool
  | .str s => decide (1 ≤ s.length) && decide (s.length ≤ 8) && s.cps.toList.all fun c => decide (c ∈ letters.cps.toList)
  | _ => false
def fromB (m : Int) : PyData → Bool
  | .int i => decide (m ≤ i)
  | _ => false
def betB (a b : Int) : PyData → Bool
  | .int i => decide (a ≤ i) && decide (i ≤ b)
  | _ => false
/-- the rows of a tally's counts, last the mark ahead -/
def row (last : Str) : PyData → Option (Str × Int)
  | .tuple [.str s, .int n] => if word (.str s) = true ∧ 1 ≤ n ∧ last.cps.toList < s.cps.toList then some (s, n) else none
  | _ => none
def rowsB (last : Str) : List PyData → Option Int
  | [] => some 0
  | x :: r => match row last x with
    | some (s, n) => (rowsB s r).map (n + ·)
    | none => none
theorem row_some {last s : Str} {n : Int} {x : PyData} (h : row last x = some (s, n)) : x = .tuple [.str s, .int n] ∧ word (.str s) = true ∧ 1 ≤ n ∧ last.cps.toList < s.cps.toList := by
  unfold row at h
  split at h
  · split at h
    · rename_i h2; cases h; exact ⟨rfl, h2⟩
    · cases h
  · cases h
theorem row_none {last : Str} {x : PyData} (h : ∀ s n, x = .tuple [.str s, .int n] → word (.str s) = true → 1 ≤ n → last.cps.toList < s.cps.toList → False) : row last x = none := by
  cases e : row last x with
  | none => rfl
  | some p => obtain ⟨s, n⟩ := p; obtain ⟨h1, h2, h3, h4⟩ := row_some e; exact (h s n h1 h2 h3 h4).elim
theorem row_ok {last s : Str} {n : Int} (h1 : word (.str s) = true) (h2 : 1 ≤ n) (h3 : last.cps.toList < s.cps.toList) : row last (.tuple [.str s, .int n]) = some (s, n) := if_pos ⟨h1, h2, h3⟩
theorem rows_C : ∀ {l : List PyData} {last : Str} {S : Int}, rowsB last l = some S → ∃ L : List (Str × Int), l = C L ∧ S = sumC L
  | [], _, S, h => by cases h; exact ⟨[], rfl, rfl⟩
  | x :: l, last, S, h => by
    unfold rowsB at h
    cases e : row last x with
    | none => rw [e] at h; cases h
    | some p =>
      obtain ⟨s, n⟩ := p
      rw [e] at h
      simp only [Option.map_eq_some_iff] at h
      obtain ⟨S', h1, rfl⟩ := h
      obtain ⟨L, rfl, rfl⟩ := rows_C h1
      obtain ⟨rfl, _⟩ := row_some e
      exact ⟨(s, n) :: L, rfl, rfl⟩
def cntB (r : Int) : PyData → Bool
  | .tuple l => decide ((l.length : Int) ≤ r) && (rowsB "" l).isSome
  | _ => false
theorem cntB_t {r : Int} {l : List PyData} : cntB r (.tuple l) = (decide ((l.length : Int) ≤ r) && (rowsB "" l).isSome) := rfl
def rngB (r t n : Int) (l : List PyData) : Bool := match rowsB "" l with
  | some S => decide ((r + 1) * t ≤ n - S) && decide (n - S ≤ 2 * r * t)
  | none => false
def rng4 (r : Int) (b c e : PyData) : Bool := match b, c, e with
  | .tuple l, .int t, .int n => rngB r t n l
  | _, _, _ => false
def tallyB : PyData → Bool
  | .tuple [a, b, c, e] => betB 1 20 a && (match a with
    | .int r => cntB r b && fromB 0 c && fromB 0 e && rng4 r b c e
    | _ => false)
  | _ => false
def madeB : PyData → Bool
  | .tuple [a, b, c, e] => betB 1 20 a && (match a with
    | .int r => cntB r b && fromB 0 c && fromB 0 e
    | _ => false)
  | _ => false
theorem madeB_4 {a b c e : PyData} : madeB (.tuple [a, b, c, e]) = (betB 1 20 a && (match a with
    | .int r => cntB r b && fromB 0 c && fromB 0 e
    | _ => false)) := rfl
theorem madeB_i {r : Int} {b c e : PyData} : madeB (.tuple [.int r, b, c, e]) = (betB 1 20 (.int r) && (cntB r b && fromB 0 c && fromB 0 e)) := rfl
theorem made_inv {d : PyData} (h : madeB d = true) : ∃ r L t n, d = .tuple [.int r, .tuple (C L), .int t, .int n] ∧ 1 ≤ r ∧ r ≤ 20 ∧ (L.length : Int) ≤ r ∧ rowsB "" (C L) = some (sumC L) ∧ 0 ≤ t ∧ 0 ≤ n := by
  unfold madeB at h
  split at h
  · rename_i a b c e
    obtain ⟨h1, h2⟩ := Bool.and_eq_true_iff.mp h
    split at h2
    · rename_i r
      simp only [Bool.and_eq_true] at h2
      obtain ⟨⟨h3, h4⟩, h5⟩ := h2
      simp [betB] at h1
      unfold cntB at h3
      split at h3
      · rename_i l
        simp only [Bool.and_eq_true, decide_eq_true_eq] at h3
        obtain ⟨S, hS⟩ := Option.isSome_iff_exists.mp h3.2
        obtain ⟨L, rfl, rfl⟩ := rows_C hS
        unfold fromB at h4 h5
        split at h4
        · split at h5
          · simp at h4 h5
            exact ⟨_, L, _, _, rfl, h1.1, h1.2, by have := h3.1; simpa [C] using this, hS, h4, h5⟩
          · cases h5
        · cases h4
      · cases h3
    · cases h2
  · cases h
theorem tally_made {d : PyData} (h : madeB d = false) : tallyB d = false := by
  unfold madeB at h
  unfold tallyB
  split
  · rename_i a b c e
    simp only at h
    cases h1 : betB 1 20 a with
    | false => rfl
    | true =>
      rw [h1] at h
      cases a with
      | int r =>
        simp only [Bool.true_and] at h ⊢
        rw [h]
        rfl
      | _ => rfl
  · rfl
theorem at_mid {u v : List PyData} {x : PyData} {Q : PyData → Prop} (q : Q x) : wO (atI (u ++ x :: v) (u.length : Int)) Q := by
  refine at_ok (by omega) (by simp; omega) ?_
  have e : (u ++ x :: v)[((u.length : Int)).toNat]'(by simp) = x := by simp
  rw [e]; exact q
theorem at_prev {u v : List PyData} {w : PyData} {Q : PyData → Prop} (q : Q w) : wO (atI (u ++ [w] ++ v) (((u ++ [w]).length : Int) - 1)) Q := by
  have e1 : ((u ++ [w]).length : Int) - 1 = u.length := by simp
  rw [e1, List.append_assoc]
  exact at_mid q
theorem ahead0 {s : Str} (h : 1 ≤ s.length) : (Str.ofString "").cps.toList < s.cps.toList := by
  have e : (Str.ofString "").cps.toList = [] := rfl
  rw [e]
  have hl : s.cps.toList.length = s.length := rfl
  cases hc : s.cps.toList with
  | nil => rw [hc] at hl; simp at hl; omega
  | cons a r => exact List.nil_lt_cons _ _
theorem tallyB_i {r t n : Int} {l : List PyData} : tallyB (.tuple [.int r, .tuple l, .int t, .int n]) = (betB 1 20 (.int r) && (decide ((l.length : Int) ≤ r) && (rowsB "" l).isSome && fromB 0 (.int t) && fromB 0 (.int n) && rngB r t n l)) := rfl
theorem tallyB_no {a b c e : PyData} (h : ∀ r l t n, a = .int r → b = .tuple l → c = .int t → e = .int n → False) : tallyB (.tuple [a, b, c, e]) = false := by
  cases a with
  | int r =>
    have z : rng4 r b c e = false := by
      unfold rng4
      split
      · exact (h _ _ _ _ rfl rfl rfl rfl).elim
      · rfl
    have e1 : tallyB (.tuple [.int r, b, c, e]) = (betB 1 20 (.int r) && (cntB r b && fromB 0 c && fromB 0 e && rng4 r b c e)) := rfl
    rw [e1, z]
    simp
  | _ => rfl
theorem n0 {b : Int} : ∀ x ∈ ([] : List PyData), NcB b x := fun _ m => nomatch m
theorem nc {b : Int} {a : PyData} {l : List PyData} (h : NcB b a) (k : ∀ x ∈ l, NcB b x) : ∀ x ∈ a :: l, NcB b x := fun x m => (List.mem_cons.mp m).elim (fun e => e ▸ h) (k x)
abbrev Bd : Int := 100000000000000000000000
abbrev Nd : PyData → Prop := NcB Bd
structure Tn (n : Nat) (l : List PyData) : Prop where
  all : ∀ x ∈ l, Nd x
  len : l.length ≤ n
theorem Tn.app {n m : Nat} {l k : List PyData} (h : Tn n l) (h2 : Tn m k) : Tn (n + m) (l ++ k) := ⟨fun x m => (List.mem_append.mp m).elim (h.all x) (h2.all x), by rw [List.length_append]; have := h.len; have := h2.len; omega⟩
theorem Tn.cut {n : Nat} {l : List PyData} (h : Tn n l) (lo hi : Option Int) : Tn n (DL.cutD l lo hi) := ⟨fun x m => h.all x (List.mem_of_mem_drop (List.mem_of_mem_take m)), Nat.le_trans (by unfold DL.cutD; rw [List.length_take, List.length_drop]; omega) h.len⟩
theorem Tn.one {x : PyData} (h : Nd x) : Tn 1 [x] := ⟨nc h n0, by simp⟩
theorem Tn.tup {n : Nat} {l : List PyData} (h : Tn n l) (k : n < 100 := by decide) : Nd (.tuple l) := .tup h.all (Nat.lt_of_le_of_lt h.len k)
theorem Tn.lst {n : Nat} {l : List PyData} (h : Tn n l) (k : n < 100 := by decide) : Nd (.list l) := .lst h.all (Nat.lt_of_le_of_lt h.len k)
theorem Tn.rev {n : Nat} {l : List PyData} (h : Tn n l) : Tn n l.reverse := ⟨fun x m => h.all x (List.mem_reverse.mp m), by rw [List.length_reverse]; exact h.len⟩
theorem str_len {i : Int} (h1 : 0 ≤ i) (h2 : i < Bd) : (Str.ofString (toString i)).length ≤ 10000 ∧ i.natAbs.log2 < 1920 := by
  unfold Bd at h2
  have h : i.natAbs.log2 < 100 := by
    rcases Nat.eq_zero_or_pos i.natAbs with z | z
    · rw [z]; decide
    · exact (Nat.log2_lt (by omega)).mpr (by omega)
  exact ⟨Nat.le_trans (PyProof.Rows.toString_length_le h1 (k := 23) (by decide) h2) (by decide), by omega⟩
theorem C_tn {L : List (Str × Int)} (hz : L.length ≤ 20) (hw : ∀ p ∈ L, wordy p.1 = true) (h : ∀ p ∈ L, 1 ≤ p.2 ∧ p.2 < 100000000000000000000) : Tn 20 (C L) := ⟨fun x m => by
  obtain ⟨p, hp, rfl⟩ := List.mem_map.mp m
  have h1 := h p hp
  have h2 := hw p hp
  simp [wordy] at h2
  exact .tup (nc (.str (by omega)) (nc (.int (by unfold Bd; omega) (by unfold Bd; omega)) n0)) (by simp), by simpa [C] using hz⟩
theorem eqv_nil {L : List (Str × Int)} : PyData.eqv (.tuple (C L)) (.tuple []) = L.isEmpty := by
  cases L <;> simp [C, PyData.eqv, PyData.eqvAll]
def intOf : PyData → Int
  | .int i => i
  | _ => 0
theorem sum_le {B : Int} : ∀ {l : List Int}, (∀ i ∈ l, -B ≤ i ∧ i ≤ B) → -(l.length * B) ≤ l.sum ∧ l.sum ≤ l.length * B
  | [], _ => by simp
  | x :: l, h => by
    have h1 := h x List.mem_cons_self
    have h2 := sum_le fun i m => h i (List.mem_cons_of_mem _ m)
    rw [List.sum_cons, List.length_cons]
    have : ((l.length + 1 : Nat) : Int) * B = l.length * B + B := by rw [Int.natCast_add, Int.add_mul]; simp
    omega
theorem tl_nd {T : Tl} (h : Tl.Ok T) : Tn 20 (C T.cts) ∧ Nd T.d := by
  have tB := h.tB; have lB := h.lB; have l0 := h.l0; have lo := h.lo; have len := h.len; have r1 := h.r1; have r2 := h.r2
  have e1 : 0 ≤ (T.room + 1) * T.lt := Int.mul_nonneg (by omega) l0
  have c := C_tn (L := T.cts) (by omega) h.wd fun p m => ⟨h.c1 p m, h.cB p m⟩
  exact ⟨c, .tup (nc (.int (by unfold Bd; omega) (by unfold Bd; omega)) (nc (c.tup) (nc (.int (by unfold Bd; omega) (by unfold Bd; omega)) (nc (.int (by unfold Bd; omega) (by unfold Bd; omega)) n0)))) (by simp)⟩
theorem word_of {s : Str} (h : wordy s = true) : word (.str s) = true := by
  simp [wordy] at h
  simp [word]
  refine ⟨⟨h.1.1, h.1.2⟩, fun i hi => ?_⟩
  have := h.2 i hi
  simp [lowc] at this
  have e : letters.cps.toList = (List.range 26).map (· + 97) := by decide +kernel
  rw [← Array.mem_toList_iff, e]
  exact List.mem_map.mpr ⟨s.cps[i] - 97, List.mem_range.mpr (by omega), by omega⟩
theorem rows_ok : ∀ {L : List (Str × Int)} {last : Str}, (∀ p ∈ L, wordy p.1 = true) → (∀ p ∈ L, 1 ≤ p.2) → Rise L → (∀ p ∈ L, last.cps.toList < p.1.cps.toList) → rowsB last (C L) = some (sumC L)
  | [], _, _, _, _, _ => rfl
  | p :: L, last, hw, h1, hr, hl => by
    have e : row last (.tuple [.str p.1, .int p.2]) = some (p.1, p.2) := row_ok (word_of (hw p (by simp))) (h1 p (by simp)) (hl p (by simp))
    have hr' := List.pairwise_cons.mp hr
    have ih := rows_ok (L := L) (last := p.1) (fun q m => hw q (by simp [m])) (fun q m => h1 q (by simp [m])) hr'.2 fun q m => hr'.1 q.1 (List.mem_map.mpr ⟨q, m, rfl⟩)
    show (match row last (.tuple [.str p.1, .int p.2]) with
      | some (s, n) => (rowsB s (C L)).map (n + ·)
      | none => none) = _
    rw [e]
    show (rowsB p.1 (C L)).map (p.2 + ·) = _
    rw [ih]
    simp [sumC]
theorem tally_true {T : Tl} (h : Tl.Ok T) : tallyB T.d = true := by
  have tB := h.tB; have lB := h.lB; have l0 := h.l0; have lo := h.lo; have hi := h.hi; have len := h.len; have r1 := h.r1; have r2 := h.r2
  have e1 : 0 ≤ (T.room + 1) * T.lt := Int.mul_nonneg (by omega) l0
  have er : rowsB "" (C T.cts) = some (sumC T.cts) := rows_ok h.wd h.c1 h.rise fun p m => ahead0 (by have := h.wd p m; simp [wordy] at this; omega)
  have lC : (C T.cts).length = T.cts.length := by simp [C]
  show tallyB (.tuple [.int T.room, .tuple (C T.cts), .int T.lt, .int T.tot]) = true
  rw [tallyB_i]
  unfold rngB
  rw [er]
  simp [betB, fromB, lC]
  omega
theorem tally_none {r : Int} (h : 1 ≤ r ∧ r ≤ 20) : tallyB (.tuple [.int r, .tuple [], .int 0, .int 0]) = true := by
  rw [tallyB_i]
  simp [betB, fromB, rngB, rowsB]
  omega
end DL

set_option Elab.async false
set_option linter.all false
set_option maxRecDepth 100000
set_option maxHeartbeats 4000000
namespace DL
open PySem PySem.Spec PyProof.Rows L2
/-! ### sets of things that are read back: ints, texts -/
structure Rk (P : Program) (w : World) (κ : Type) [DecidableEq κ] where
  knd : KeyKind P w κ
  rd : Value → κ
  hrd : ∀ k v, knd.is k v = true → rd v = k
  hsc : ∀ k v, knd.is k v = true → v.scannable = true
  enc : κ → PyData
  hen : ∀ k v, knd.is k v = true → ∀ h : Heap, ∃ as, Reads h v (enc k) as ∧ ∀ a : Addr, a ∉ as
  hal : ∀ a b, PySem.W.alike (enc a) (enc b) = true
  hno : ∀ a, enc a ≠ .none ∧ ∀ xs, enc a ≠ .tuple xs
  hde : ∀ a, (enc a).depth = 0
  vz : κ → V
  hvz : ∀ k v, knd.is k v = true → RelV (vz k) v
section
variable {κ : Type} [DecidableEq κ] {P : Program} {w : World}
def kG (K : Rk P w κ) (e : Int × Value) : κ := K.rd e.2
def GoodG (K : Rk P w κ) (e : Int × Value) : Prop := ∃ k, K.knd.is k e.2 = true ∧ e.1 = K.knd.hash k
/-- the set at a, its members S, n of them; it can be walked -/
def SetG (K : Rk P w κ) (h : Heap) (a : Addr) (S : κ → Bool) (n : Nat) : Prop :=
  ∃ o es ep t, h.get? a = some o ∧ o.ExactSet ∧ o.data = .set es ep t ∧ (∀ e ∈ es.toList, GoodG K e) ∧ (es.toList.map (kG K)).Nodup ∧ (∀ k, S k = true ↔ k ∈ es.toList.map (kG K)) ∧
    es.size < scanBound ∧ t.fits es.size = true ∧ es.size = n ∧ Ris t.place.toList ∧ (w.params.followText "set-order" = true ∨ t.led = true)
variable {K : Rk P w κ} {h h' : Heap} {a : Addr} {S : κ → Bool} {n : Nat}
theorem SetG.at (R : SetG K h a S n) (k : ∀ o, h.get? a = some o → h'.get? a = some o) : SetG K h' a S n := by
  obtain ⟨o, es, ep, t, ho, r⟩ := R
  exact ⟨o, es, ep, t, k o ho, r⟩
theorem SetG.congr {S' : κ → Bool} (R : SetG K h a S n) (e : ∀ k, S' k = S k) : SetG K h a S' n := by
  rw [show S' = S from funext e]; exact R
theorem goodG_elems {l : List (Int × Value)} (g : ∀ e ∈ l, GoodG K e) : ElemsOf K.knd l := fun e he => by
  obtain ⟨k, z1, z2⟩ := g e he
  exact ⟨⟨k, z1, z2⟩, K.hsc _ _ z1⟩
theorem goodG_is {e : Int × Value} (g : GoodG K e) (k : κ) : K.knd.is k e.2 = true ↔ kG K e = k := by
  obtain ⟨k0, z1, _⟩ := g
  exact ⟨fun z => K.hrd _ _ z, fun z => by rw [← z, show kG K e = k0 from K.hrd _ _ z1]; exact z1⟩
theorem goodG_mem {l : List (Int × Value)} (g : ∀ e ∈ l, GoodG K e) (k : κ) : k ∈ l.map (kG K) ↔ ∃ e ∈ l, K.knd.is k e.2 = true := by
  rw [List.mem_map]
  exact ⟨fun ⟨e, he, q⟩ => ⟨e, he, (goodG_is (g e he) k).2 q⟩, fun ⟨e, he, q⟩ => ⟨e, he, (goodG_is (g e he) k).1 q⟩⟩
end
section
variable {κ : Type} [DecidableEq κ] {P : Program} {w : World} {K : Rk P w κ} {A : Around} {E : Value → Shared → Prop} {s : Shared} {a : Addr} {S : κ → Bool} {n : Nat}
theorem setG_tail {g : Bool → Sem Unit} (hg : ∀ (b : Bool) (z₁ : Shared) (Q' : Unit → Shared → Prop), Q' () z₁ → wpAny (model P w) A (g b) Q' E z₁)
    {o : Obj} {es : Array (Int × Value)} {ep : Nat} {t : SetTable} (zo : s.heap.get? a = some o) (zex : o.ExactSet) (zd : o.data = .set es ep t)
    {es1 : Array (Int × Value)} {t2 : SetTable} {S' : κ → Bool} (g1 : ∀ e ∈ es1.toList, GoodG K e) (nd1 : (es1.toList.map (kG K)).Nodup) (m1 : ∀ k, S' k = true ↔ k ∈ es1.toList.map (kG K))
    (zb1 : es1.size < scanBound) (zf2 : t2.fits es1.size = true) (zr : Ris t2.place.toList) (zl : w.params.followText "set-order" = true ∨ t2.led = true) {wasDummy : Bool} {R : Option Bool → Shared → Prop}
    (zR : ∀ h', Heap.SameBut a s.heap h' → SetG K h' a S' es1.size → R (some true) { s with heap := h' }) :
    wpAny (model P w) A (do
        storeSet a es1 t2
        if (!wasDummy && t2.tooFull) = true then do
            g (relayAll t2 es1 (SetTable.grown es1.size)).2.2
            storeSet a (relayAll t2 es1 (SetTable.grown es1.size)).1 (relayAll t2 es1 (SetTable.grown es1.size)).2.1
            pure (some true)
          else pure (some true)) R E s := by
  refine wpAny_bind (wpAny_storeSet_of zo zd ?_ (fits_of_scanBound zb1))
  have zo1 := store_at (es' := es1) (t' := t2) zo zd
  have sb1 := Heap.SameBut.update s.heap a (Obj.putSet es1 t2)
  split
  · have pm := relayAll_perm t2 es1 (SetTable.grown es1.size)
    have zf3 := relayAll_fits t2 es1 (SetTable.grown es1.size)
    have zr3 := relayAll_ris t2 es1 (SetTable.grown es1.size)
    have zl3 := relayAll_led t2 es1 (SetTable.grown es1.size)
    generalize relayAll t2 es1 (SetTable.grown es1.size) = Z at pm zf3 zr3 zl3 ⊢
    obtain ⟨es2, t3, gave⟩ := Z
    dsimp only at pm zf3 zr3 zl3 ⊢
    have zsz : es2.size = es1.size := by rw [← Array.length_toList, pm.length_eq, Array.length_toList]
    have zb2 : es2.size < scanBound := by rw [zsz]; exact zb1
    refine wpAny_bind (hg _ _ _ ?_)
    refine wpAny_bind (wpAny_storeSet_of zo1 rfl ?_ (fits_of_scanBound zb2))
    have zo2 := store_at (es' := es2) (t' := t3) zo1 rfl
    refine wpAny_pure (zR _ (sb1.trans (Heap.SameBut.update _ a _)) ?_)
    exact ⟨_, es2, _, t3, zo2, zex, rfl, fun e he => g1 e (pm.mem_iff.mp he), (pm.map (kG K)).nodup_iff.mpr nd1, fun k => (m1 k).trans (pm.map (kG K)).mem_iff.symm, zb2, zf3, zsz, zr3,
      zl.imp id fun z => by rw [zl3]; exact z⟩
  · exact wpAny_pure (zR _ sb1 ⟨_, es1, _, t2, zo1, zex, rfl, g1, nd1, m1, zb1, zf2, rfl, zr, zl⟩)
theorem setG_add {k : κ} {v : Value} {Q : Bool → Shared → Prop} (zkey : K.knd.is k v = true) (R : SetG K s.heap a S n) (room : n + 1 < scanBound)
    (zQ : ∀ h', Heap.SameBut a s.heap h' → SetG K h' a (fun j => S j || decide (j = k)) (if S k = true then n else n + 1) → Q (!S k) { s with heap := h' }) :
    wpAny (model P w) A (setAddHashed a v (K.knd.hash k)) Q E s := by
  obtain ⟨o, es, ep, t, zo, zex, zd, g, nd, zm, zb, zf, zn, zr, zl⟩ := R
  have zsc : v.scannable = true := K.hsc _ _ zkey
  have zel : ElemsOf K.knd es.toList := goodG_elems g
  unfold setAddHashed setAddHashedIn
  refine wpAny_holding (wpAny_bind (wpAny_setState_of zo zd zf ?_))
  dsimp only
  rw [byScan_of zsc zb zel]
  simp only [↓reduceIte]
  unfold setAddByScan
  refine wpAny_bind ?_
  refine wpAny_bind (wpAny_rule ?_)
  refine wpAny_bind (wpAny_setScan_of zkey zo zd zf zel ?_)
  cases zfi : List.findIdx? (fun e => K.knd.is k e.2) es.toList with
  | some j =>
    dsimp only
    obtain ⟨zj, pj, _⟩ := List.findIdx?_eq_some_iff_getElem.mp zfi
    have zSk : S k = true := (zm k).2 ((goodG_mem g k).2 ⟨es.toList[j], List.getElem_mem zj, pj⟩)
    refine wpAny_pure (wpAny_pure ?_)
    have q := zQ s.heap (Heap.SameBut.refl a s.heap) ⟨o, es, ep, t, zo, zex, zd, g, nd, fun i => by
      rw [Bool.or_eq_true, decide_eq_true_eq, ← zm i]
      exact ⟨fun z => z.elim id (fun e => e ▸ zSk), .inl⟩, zb, zf, by rw [if_pos zSk]; exact zn, zr, zl⟩
    rw [zSk] at q
    exact q
  | none =>
    dsimp only
    have znk : k ∉ es.toList.map (kG K) := fun z => by
      obtain ⟨e, he, q⟩ := (goodG_mem g k).1 z
      have c := List.findIdx?_eq_none_iff.mp zfi e he
      rw [q] at c
      cases c
    have zSk : S k = false := by
      cases q : S k with
      | false => rfl
      | true => exact absurd ((zm k).1 q) znk
    have zgw : ∀ (b : Bool) {z₁ : Shared} {Q' : Unit → Shared → Prop}, Q' () z₁ → wpAny (model P w) A (match b with | true => rule "set.scan.the-table-gave-way" | false => pure ()) Q' E z₁ :=
      fun b z₁ Q' q => by cases b <;> first | exact wpAny_pure q | exact wpAny_rule q
    have pm := layNew_perm t es (K.knd.hash k) v
    have zf1 := layNew_fits t es (K.knd.hash k) v
    have zr1 := layNew_ris t es (K.knd.hash k) v zr
    have zl1 := layNew_led t es (K.knd.hash k) v
    generalize layNew t es (K.knd.hash k) v = Z at pm zf1 zr1 zl1 ⊢
    obtain ⟨es1, t1, wasDummy, gave⟩ := Z
    dsimp only at pm zf1 zr1 zl1 ⊢
    rw [Array.toList_push] at pm
    have pc : es1.toList.Perm ((K.knd.hash k, v) :: es.toList) := pm.trans (List.perm_append_singleton _ _)
    have ek : kG K (K.knd.hash k, v) = k := K.hrd _ _ zkey
    have pk : (es1.toList.map (kG K)).Perm (k :: es.toList.map (kG K)) := by
      have := pc.map (kG K)
      rwa [List.map_cons, ek] at this
    have g1 : ∀ e ∈ es1.toList, GoodG K e := fun e he => by
      rcases List.mem_cons.mp (pc.mem_iff.mp he) with z | z
      · rw [z]; exact ⟨k, zkey, rfl⟩
      · exact g e z
    have nd1 : (es1.toList.map (kG K)).Nodup := pk.nodup_iff.mpr (List.nodup_cons.mpr ⟨znk, nd⟩)
    have m1 : ∀ i, (S i || decide (i = k)) = true ↔ i ∈ es1.toList.map (kG K) := fun i => by
      rw [Bool.or_eq_true, decide_eq_true_eq, zm i, pk.mem_iff, List.mem_cons]
      exact Or.comm
    have zsz : es1.size = n + 1 := by rw [← Array.length_toList, pc.length_eq, List.length_cons, Array.length_toList, zn]
    have zb1 : es1.size < scanBound := by rw [zsz]; exact room
    have zled : w.params.followText "set-order" = true ∨ t1.led = true := zl.imp id fun z => by rw [zl1]; exact z
    have fin : ∀ h', Heap.SameBut a s.heap h' → SetG K h' a (fun j => S j || decide (j = k)) es1.size → Q true { s with heap := h' } := fun h' sb r => by
      have q := zQ h' sb
      rw [zSk] at q
      rw [zsz] at r
      exact q r
    refine wpAny_bind (zgw _ ?_)
    split
    · refine wpAny_bind ?_
      rw [hashByValue_scannable 8 zsc]
      refine wpAny_pure ?_
      refine setG_tail ?_ zo zex zd g1 nd1 m1 zb1 ?_ ?_ ?_ ?_
      · intro b z₁ Q' q; cases b <;> first | exact wpAny_pure q | exact wpAny_rule q
      · first | (split <;> first | exact zf1 | exact SetTable.fits_plain_off zf1) | exact zf1
      · first | (split <;> exact zr1) | exact zr1
      · first | (split <;> exact zled) | exact zled
      · intro h' sb r; dsimp only; exact wpAny_pure (fin h' sb r)
    · refine wpAny_bind (wpAny_pure ?_)
      simp only [↓reduceIte]
      refine setG_tail ?_ zo zex zd g1 nd1 m1 zb1 zf1 zr1 zled ?_
      · intro b z₁ Q' q; cases b <;> first | exact wpAny_pure q | exact wpAny_rule q
      · intro h' sb r; dsimp only; exact wpAny_pure (fin h' sb r)
theorem setG_loop {I : Addr} {fp wr : List Addr} {G : Array GenState → Array GenState → Prop} {n : Nat} {Pv : Nat → Value → Prop} {St : Nat → Shared → Prop} {R : Result → Shared → Prop}
    (W : WalksS P w A.in1 I fp wr G n Pv St) (S : Addr) (zSf : S ∉ fp) (ks : List κ) (hn : n = ks.length) (zb : ks.length + 1 < scanBound) (zval : ∀ i v, Pv i v → ∃ k, ks[i]? = some k ∧ K.knd.is k v = true) :
    ∀ (k i : Nat) (s : Shared), n - i = k → i ≤ n → St i s → (∃ c, c ≤ i ∧ SetG K s.heap S (fun j => decide (j ∈ ks.take i)) c) →
      (∀ s' c, Moved (S :: wr) G s s' → c ≤ n → SetG K s'.heap S (fun j => decide (j ∈ ks)) c → R (.ok (.ret .none)) s') →
      codeAny (model P w) A (.builtin "set.update.loop" ⟨[.ref S, .ref I], []⟩) R s := by
  have zSw : S ∉ wr := fun h => zSf (W.sub _ h)
  have zsub : ∀ b ∈ wr, b ∈ S :: wr := fun b hb => List.mem_cons_of_mem _ hb
  intro k
  induction k with
  | zero =>
    intro i s zk zi zst ⟨c, zc, zS⟩ zR
    have zin : i = n := by omega
    subst zin
    refine codeAny_builtin F.entry_set_update_loop ?_
    rw [Around.under_plainId F.plain_set_update_loop _]
    show wpAny _ A.in1 (pyNext (.ref I) >>= _) _ _ s
    refine wpAny_bind (W.done s _ _ zst fun s' zm => ?_)
    show wpAny _ A.in1 (ret Value.none) _ _ s'
    have e : ks.take i = ks := List.take_of_length_le (by omega)
    rw [e] at zS
    exact wpAny_pure (zR s' c (zm.mono zsub) zc (zS.at fun o e => zm.heap S o zSw e))
  | succ k ih =>
    intro i s zk zi zst ⟨c, zc, zS⟩ zR
    have zlt : i < n := by omega
    refine codeAny_builtin F.entry_set_update_loop ?_
    rw [Around.under_plainId F.plain_set_update_loop _]
    show wpAny _ A.in1 (pyNext (.ref I) >>= _) _ _ s
    refine wpAny_bind (W.item i s _ _ zlt zst fun v s' zP zst' zm => ?_)
    obtain ⟨z, zz, zv⟩ := zval i v zP
    have zS' : SetG K s'.heap S (fun j => decide (j ∈ ks.take i)) c := zS.at fun o e => zm.heap S o zSw e
    show wpAny _ A.in1 (holding [v] (setAdd S v) >>= _) _ _ s'
    refine wpAny_bind (wpAny_holding ?_)
    unfold setAdd
    refine wpAny_holding ?_
    refine wpAny_bind (K.knd.pyHash (k := z) zv ?_)
    refine setG_add (s := { s' with toks := s'.toks + 1 }) zv zS' (by omega) fun h' zsb zS2 => ?_
    have zS3 : SetG K h' S (fun j => decide (j ∈ ks.take (i + 1))) (if decide (z ∈ ks.take i) = true then c else c + 1) := zS2.congr fun j => by
      rw [List.take_add_one, zz]
      simp [List.mem_append]
    have zc3 : (if decide (z ∈ ks.take i) = true then c else c + 1) ≤ i + 1 := by
      split <;> omega
    refine wpAny_pure ⟨plainId_quiet F.plain_set_update_loop _, ih (i + 1) _ (by omega) zlt (W.frame _ s' _ _ zst' (Nat.le_succ _) fun b hb o e => ?_) ⟨_, zc3, zS3⟩ fun s'' c2 zm2 zc2 zS4 => ?_⟩
    · rw [zsb.2 b (fun h : b = S => zSf (by rw [← h]; exact hb))]; exact e
    · refine zR s'' c2 (Moved.trans W.gtrans ((zm.mono zsub).then_heap (Nat.le_succ _) fun b o hb e => ?_) zm2) zc2 zS4
      rw [zsb.2 b (fun h : b = S => hb (by rw [h]; exact List.mem_cons_self))]; exact e
theorem setG_new_at {h : Heap} {a : Addr} {ks : List κ} (ho : h.get? a = some { cls := .type "set", dict := none, data := .set #[] 0 (.fresh 0 0 (!w.params.followText "set-order")) }) : SetG K h a (fun j => decide (j ∈ ks.take 0)) 0 :=
  ⟨_, #[], 0, _, ho, ⟨rfl, rfl, rfl⟩, rfl, (fun e he => by simp at he), (by simp), (fun k => by simp), (by decide), (by rfl), rfl, List.Pairwise.nil, by
    show _ ∨ (!w.params.followText "set-order") = true
    cases w.params.followText "set-order"
    · exact .inr rfl
    · exact .inl rfl⟩
end
end DL

set_option Elab.async false
set_option linter.all false
set_option maxRecDepth 100000
set_option maxHeartbeats 4000000
namespace DL
open PySem PySem.Spec PyProof.Rows L2
theorem each_at {α β : Type} {R : α → β → Prop} : ∀ {l : List α} {m : List β}, PySem.W.EachIs R l m → ∀ (i : Nat) (v : α), l[i]? = some v → ∃ k, m[i]? = some k ∧ R v k
  | _, _, .nil, i, v, h => by simp at h
  | _, _, .cons h1 h2, i, v, h => by
    cases i with
    | zero => simp at h; subst h; exact ⟨_, rfl, h1⟩
    | succ i => simp at h; obtain ⟨k, e, q⟩ := each_at h2 i v h; exact ⟨k, by simpa using e, q⟩
section
variable {κ : Type} [DecidableEq κ] {P : Program} {w : World} {K : Rk P w κ} {A : Around} {E : Value → Shared → Prop} {s : Shared}
theorem call_setG_list {l : Addr} {items : Array Value} (ks : List κ) {Q : Value → Shared → Prop} (hh : A.handled = none) (hl : s.heap.IsList l items) (hit : PySem.W.EachIs (fun v k => K.knd.is k v = true) items.toList ks) (zb : ks.length + 1 < scanBound)
    (h : ∀ (h' : Heap) (tk c : Nat), SetG K h' s.heap.objs.size (fun j => decide (j ∈ ks)) c → c ≤ ks.length → (∀ b o, s.heap.get? b = some o → h'.get? b = some o) → Q (.ref s.heap.objs.size) { s with heap := h', toks := tk }) :
    wpAny (model P w) A (call (.type "set") [.ref l]) Q E s := by
  have zisz : items.size = ks.length := by
    have q := hit.length
    rw [Array.length_toList] at q
    exact q.symm ▸ rfl
  obtain ⟨c, tl, zmro⟩ := PySem.F.called_set.mro
  have zmade := PySem.F.called_set.made
  have zsub := PySem.F.called_set.sub
  refine wpAny_call (codeAny_of_tree ?_)
  show wpAny _ _ (callAny (.type "set") _) _ _ _
  refine wpAny_pure ⟨Code.quiet_builtin _ (by decide +kernel), codeAny_builtin PySem.F.entry_type_call ?_⟩
  rw [Around.under_plain (weight_type_call_type "set" [.ref l] []) rfl]
  have z1 := PySem.F.called_set.notType
  have z2 := PySem.F.called_set.canCreate
  have zct := PySem.F.typeCall_set_1 (.ref l)
  repeat (any_goals (first | assumption | wp_step))

  refine codeAny_mono (L2.code_set_led1 (.ref l) (E := E) (Q₁ := fun obj z₁ => obj = .ref s.heap.objs.size ∧ z₁ = { s with heap := s.heap.push { cls := .type "set", dict := none, data := .set #[] 0 (.fresh 0 0 (!w.params.followText "set-order")) } }) ⟨rfl, rfl⟩) fun r z₁ zr => ?_
  cases r with
  | error e => exact zr
  | ok fl =>
    cases fl with
    | ret obj =>
      obtain ⟨rfl, rfl⟩ := zr
      have zS : (s.heap.push { cls := .type "set", dict := none, data := .set #[] 0 (.fresh 0 0 (!w.params.followText "set-order")) }).get? s.heap.objs.size = some { cls := .type "set", dict := none, data := .set #[] 0 (.fresh 0 0 (!w.params.followText "set-order")) } := Heap.get?_push_size _ rfl
      have zT : Shared.TypeIs { s with heap := s.heap.push { cls := .type "set", dict := none, data := .set #[] 0 (.fresh 0 0 (!w.params.followText "set-order")) } } (.ref s.heap.objs.size) "set" := ⟨_, zS, rfl⟩
      have zli := PySem.F.called_set.init.lookup
      have zbi := PySem.F.called_set.init.bind (.ref s.heap.objs.size)
      repeat (any_goals (first | assumption | wp_step))

      refine codeAny_mono (codeAny_call_builtin (R := wants (fun r z₂ => r = .none ∧ ∃ h' tk c, z₂ = { s with heap := h', toks := tk } ∧ SetG K h' s.heap.objs.size (fun j => decide (j ∈ ks)) c ∧ c ≤ ks.length ∧
          (∀ b o, s.heap.get? b = some o → h'.get? b = some o)) E) PySem.F.called_set.init.plain PySem.F.entry_set_init (check_set_init_1 zT ?_)) fun r₂ z₂ zr₂ => ?_
      · obtain ⟨ol, zol, zcl, nl, zdl⟩ := hl
        obtain ⟨ocls, odict, odata, oslots⟩ := ol
        simp only at zcl zdl
        subst zcl; subst zdl
        have zol' : (s.heap.push { cls := .type "set", dict := none, data := .set #[] 0 (.fresh 0 0 (!w.params.followText "set-order")) }).get? l = some { cls := .type "list", dict := odict, data := .seq items nl, slots := oslots } := Heap.get?_push_of_some _ zol
        have zsls := PySem.F.sub_list_set
        have zslf := PySem.F.sub_list_frozenset
        have zne : (Value.type "list" == Value.type "dict") = false := by decide
        have zl1 : (s.heap.push { cls := .type "set", dict := none, data := .set #[] 0 (.fresh 0 0 (!w.params.followText "set-order")) }).IsList l items := ⟨_, zol', rfl, nl, rfl⟩
        unfold Builtin.«set.__init__» noKeywords Builtin.Frozenset.updateFrom
        generalize zPI : pyIter = PI
        wp_walk
        subst zPI

        refine wpAny_pyIter_list zl1 ?_
        refine wpAny_bind (wpAny_runValue ?_)
        have zlS : l < s.heap.objs.size := Heap.lt_size zol
        have zh3 : A.in1.in1.in1.handled = none := by simp [hh]
        have zneI : l ≠ (s.heap.push { cls := .type "set", dict := none, data := .set #[] 0 (.fresh 0 0 (!w.params.followText "set-order")) }).objs.size := by
          rw [Heap.size_push]; exact Nat.ne_of_lt (Nat.lt_succ_of_lt zlS)
        have zSf : s.heap.objs.size ∉ [(s.heap.push { cls := .type "set", dict := none, data := .set #[] 0 (.fresh 0 0 (!w.params.followText "set-order")) }).objs.size, l] := by
          rw [Heap.size_push]; simp only [List.mem_cons, List.mem_singleton, List.not_mem_nil, or_false, not_or]
          exact ⟨Nat.ne_of_lt (Nat.lt_succ_self _), Nat.ne_of_gt zlS⟩
        have zval : ∀ (i : Nat) (v : Value), items[i]? = some v → ∃ k, ks[i]? = some k ∧ K.knd.is k v = true := fun i v hv => each_at hit i v (by rw [Array.getElem?_toList]; exact hv)
        refine setG_loop (((Walks.list zh3 _ l zneI items).toS)) s.heap.objs.size
          zSf ks zisz zb zval (items.size - 0) 0 _ (by omega) (Nat.zero_le _)
          ⟨⟨_, Heap.get?_push_size _ rfl, rfl, rfl⟩, (zl1.push _)⟩ ?zS0 ?hR
        case zS0 =>
          have zget : ((s.heap.push { cls := .type "set", dict := none, data := .set #[] 0 (.fresh 0 0 (!w.params.followText "set-order")) }).push { cls := .type "list_iterator", data := .fields #[.ref l, .int 0 0] }).get? s.heap.objs.size
              = some { cls := .type "set", dict := none, data := .set #[] 0 (.fresh 0 0 (!w.params.followText "set-order")) } := Heap.get?_push_of_some _ zS
          exact ⟨0, Nat.le_refl 0, setG_new_at zget⟩
        case hR =>
          intro s' c' zm zc' zS'
          obtain ⟨h', g2, d', tk', os'⟩ := s'
          have eg : g2 = s.gens := zm.gens
          have ed : d' = s.drawn := zm.drawn
          have eo : os' = s.os := zm.os
          subst eg; subst ed; subst eo
          show wpAny _ _ _ _ _ _
          refine wpAny_pure ?_
          show wpAny _ _ (ret Value.none) _ _ _
          rw [zisz] at zc'
          refine wpAny_pure ⟨rfl, h', tk', c', rfl, zS', zc', fun b o e => ?_⟩
          have zb0 : b < s.heap.objs.size := Heap.lt_size e
          have zb1 : b ≠ s.heap.objs.size := Nat.ne_of_lt zb0
          have zb2 : b ≠ (s.heap.push { cls := .type "set", dict := none, data := .set #[] 0 (.fresh 0 0 (!w.params.followText "set-order")) }).objs.size := by
            rw [Heap.size_push]; exact Nat.ne_of_lt (Nat.lt_succ_of_lt zb0)
          exact zm.heap b o (by simp only [List.mem_cons, List.mem_singleton, List.not_mem_nil, or_false, not_or]; exact ⟨zb1, zb2⟩) (Heap.get?_push_of_some _ (Heap.get?_push_of_some _ e))

      · cases r₂ with
        | error e => exact zr₂
        | ok fl₂ =>
          cases fl₂ with
          | ret r =>
            obtain ⟨rfl, h', tk, c', rfl, zS', zc', zk'⟩ := zr₂
            repeat (any_goals (first | assumption | wp_step))
            exact h _ _ _ zS' zc' zk'
          | _ => exact zr₂.elim
    | _ => exact zr.elim
theorem call_setG_tuple {l : Addr} {items : Array Value} (ks : List κ) {Q : Value → Shared → Prop} (hh : A.handled = none) (hl : s.heap.IsTuple l items) (hit : PySem.W.EachIs (fun v k => K.knd.is k v = true) items.toList ks) (zb : ks.length + 1 < scanBound)
    (h : ∀ (h' : Heap) (tk c : Nat), SetG K h' s.heap.objs.size (fun j => decide (j ∈ ks)) c → c ≤ ks.length → (∀ b o, s.heap.get? b = some o → h'.get? b = some o) → Q (.ref s.heap.objs.size) { s with heap := h', toks := tk }) :
    wpAny (model P w) A (call (.type "set") [.ref l]) Q E s := by
  have zisz : items.size = ks.length := by
    have q := hit.length
    rw [Array.length_toList] at q
    exact q.symm ▸ rfl
  obtain ⟨c, tl, zmro⟩ := PySem.F.called_set.mro
  have zmade := PySem.F.called_set.made
  have zsub := PySem.F.called_set.sub
  refine wpAny_call (codeAny_of_tree ?_)
  show wpAny _ _ (callAny (.type "set") _) _ _ _
  refine wpAny_pure ⟨Code.quiet_builtin _ (by decide +kernel), codeAny_builtin PySem.F.entry_type_call ?_⟩
  rw [Around.under_plain (weight_type_call_type "set" [.ref l] []) rfl]
  have z1 := PySem.F.called_set.notType
  have z2 := PySem.F.called_set.canCreate
  have zct := PySem.F.typeCall_set_1 (.ref l)
  repeat (any_goals (first | assumption | wp_step))

  refine codeAny_mono (L2.code_set_led1 (.ref l) (E := E) (Q₁ := fun obj z₁ => obj = .ref s.heap.objs.size ∧ z₁ = { s with heap := s.heap.push { cls := .type "set", dict := none, data := .set #[] 0 (.fresh 0 0 (!w.params.followText "set-order")) } }) ⟨rfl, rfl⟩) fun r z₁ zr => ?_
  cases r with
  | error e => exact zr
  | ok fl =>
    cases fl with
    | ret obj =>
      obtain ⟨rfl, rfl⟩ := zr
      have zS : (s.heap.push { cls := .type "set", dict := none, data := .set #[] 0 (.fresh 0 0 (!w.params.followText "set-order")) }).get? s.heap.objs.size = some { cls := .type "set", dict := none, data := .set #[] 0 (.fresh 0 0 (!w.params.followText "set-order")) } := Heap.get?_push_size _ rfl
      have zT : Shared.TypeIs { s with heap := s.heap.push { cls := .type "set", dict := none, data := .set #[] 0 (.fresh 0 0 (!w.params.followText "set-order")) } } (.ref s.heap.objs.size) "set" := ⟨_, zS, rfl⟩
      have zli := PySem.F.called_set.init.lookup
      have zbi := PySem.F.called_set.init.bind (.ref s.heap.objs.size)
      repeat (any_goals (first | assumption | wp_step))

      refine codeAny_mono (codeAny_call_builtin (R := wants (fun r z₂ => r = .none ∧ ∃ h' tk c, z₂ = { s with heap := h', toks := tk } ∧ SetG K h' s.heap.objs.size (fun j => decide (j ∈ ks)) c ∧ c ≤ ks.length ∧
          (∀ b o, s.heap.get? b = some o → h'.get? b = some o)) E) PySem.F.called_set.init.plain PySem.F.entry_set_init (check_set_init_1 zT ?_)) fun r₂ z₂ zr₂ => ?_
      · obtain ⟨ol, zol, zcl, nl, zdl⟩ := hl
        obtain ⟨ocls, odict, odata, oslots⟩ := ol
        simp only at zcl zdl
        subst zcl; subst zdl
        have zol' : (s.heap.push { cls := .type "set", dict := none, data := .set #[] 0 (.fresh 0 0 (!w.params.followText "set-order")) }).get? l = some { cls := .type "tuple", dict := odict, data := .seq items nl, slots := oslots } := Heap.get?_push_of_some _ zol
        have zsls := PySem.F.sub_tuple_set
        have zslf := PySem.F.sub_tuple_frozenset
        have zne : (Value.type "tuple" == Value.type "dict") = false := by decide
        have zl1 : (s.heap.push { cls := .type "set", dict := none, data := .set #[] 0 (.fresh 0 0 (!w.params.followText "set-order")) }).IsTuple l items := ⟨_, zol', rfl, nl, rfl⟩
        unfold Builtin.«set.__init__» noKeywords Builtin.Frozenset.updateFrom
        generalize zPI : pyIter = PI
        wp_walk
        subst zPI

        refine wpAny_pyIter_tuple zl1 ?_
        refine wpAny_bind (wpAny_runValue ?_)
        have zlS : l < s.heap.objs.size := Heap.lt_size zol
        have zh3 : A.in1.in1.in1.handled = none := by simp [hh]
        have zneI : l ≠ (s.heap.push { cls := .type "set", dict := none, data := .set #[] 0 (.fresh 0 0 (!w.params.followText "set-order")) }).objs.size := by
          rw [Heap.size_push]; exact Nat.ne_of_lt (Nat.lt_succ_of_lt zlS)
        have zSf : s.heap.objs.size ∉ [(s.heap.push { cls := .type "set", dict := none, data := .set #[] 0 (.fresh 0 0 (!w.params.followText "set-order")) }).objs.size, l] := by
          rw [Heap.size_push]; simp only [List.mem_cons, List.mem_singleton, List.not_mem_nil, or_false, not_or]
          exact ⟨Nat.ne_of_lt (Nat.lt_succ_self _), Nat.ne_of_gt zlS⟩
        have zval : ∀ (i : Nat) (v : Value), items[i]? = some v → ∃ k, ks[i]? = some k ∧ K.knd.is k v = true := fun i v hv => each_at hit i v (by rw [Array.getElem?_toList]; exact hv)
        refine setG_loop (((Walks.tuple zh3 _ l zneI items).toS)) s.heap.objs.size
          zSf ks zisz zb zval (items.size - 0) 0 _ (by omega) (Nat.zero_le _)
          ⟨⟨_, Heap.get?_push_size _ rfl, rfl, rfl⟩, (zl1.push _)⟩ ?zS0 ?hR
        case zS0 =>
          have zget : ((s.heap.push { cls := .type "set", dict := none, data := .set #[] 0 (.fresh 0 0 (!w.params.followText "set-order")) }).push { cls := .type "tuple_iterator", data := .fields #[.ref l, .int 0 0] }).get? s.heap.objs.size
              = some { cls := .type "set", dict := none, data := .set #[] 0 (.fresh 0 0 (!w.params.followText "set-order")) } := Heap.get?_push_of_some _ zS
          exact ⟨0, Nat.le_refl 0, setG_new_at zget⟩
        case hR =>
          intro s' c' zm zc' zS'
          obtain ⟨h', g2, d', tk', os'⟩ := s'
          have eg : g2 = s.gens := zm.gens
          have ed : d' = s.drawn := zm.drawn
          have eo : os' = s.os := zm.os
          subst eg; subst ed; subst eo
          show wpAny _ _ _ _ _ _
          refine wpAny_pure ?_
          show wpAny _ _ (ret Value.none) _ _ _
          rw [zisz] at zc'
          refine wpAny_pure ⟨rfl, h', tk', c', rfl, zS', zc', fun b o e => ?_⟩
          have zb0 : b < s.heap.objs.size := Heap.lt_size e
          have zb1 : b ≠ s.heap.objs.size := Nat.ne_of_lt zb0
          have zb2 : b ≠ (s.heap.push { cls := .type "set", dict := none, data := .set #[] 0 (.fresh 0 0 (!w.params.followText "set-order")) }).objs.size := by
            rw [Heap.size_push]; exact Nat.ne_of_lt (Nat.lt_succ_of_lt zb0)
          exact zm.heap b o (by simp only [List.mem_cons, List.mem_singleton, List.not_mem_nil, or_false, not_or]; exact ⟨zb1, zb2⟩) (Heap.get?_push_of_some _ (Heap.get?_push_of_some _ e))

      · cases r₂ with
        | error e => exact zr₂
        | ok fl₂ =>
          cases fl₂ with
          | ret r =>
            obtain ⟨rfl, h', tk, c', rfl, zS', zc', zk'⟩ := zr₂
            repeat (any_goals (first | assumption | wp_step))
            exact h _ _ _ zS' zc' zk'
          | _ => exact zr₂.elim
    | _ => exact zr.elim
theorem each_rd : ∀ {vs : List Value}, (∀ v ∈ vs, ∃ k, K.knd.is k v = true) → PySem.W.EachIs (fun v k => K.knd.is k v = true) vs (vs.map K.rd)
  | [], _ => .nil
  | v :: vs, h => by
    obtain ⟨k, hk⟩ := h v List.mem_cons_self
    refine .cons ?_ (each_rd fun u hu => h u (List.mem_cons_of_mem _ hu))
    rw [K.hrd _ _ hk]; exact hk
theorem each_imp {α β : Type} {R R' : α → β → Prop} (f : ∀ a b, R a b → R' a b) : ∀ {l : List α} {m : List β}, PySem.W.EachIs R l m → PySem.W.EachIs R' l m
  | _, _, .nil => .nil
  | _, _, .cons h1 h2 => .cons (f _ _ h1) (each_imp f h2)
theorem sorted_setG {a : Addr} {S : κ → Bool} {n : Nat} {Q : Value → Shared → Prop} (R : SetG K s.heap a S n) (hz : n ≤ 1000000) (hh : A.handled = none) (hu : A.units + 5 < cLine)
    (hQ : ∀ s' p (out : List Value) (c : Nat) (r : List κ), (∀ b o, s.heap.get? b = some o → s'.heap.get? b = some o) → s'.gens = s.gens → s'.os = s.os → s.heap.objs.size ≤ p →
      s'.heap.get? p = some (seqObj "list" out.toArray c) → PySem.W.EachIs (fun v k => K.knd.is k v = true) out r → r.length = n → r.Nodup → (∀ k, k ∈ r ↔ S k = true) → r.Pairwise (fun x y => PySem.W.dataLe false K.enc x y = true) → Q (.ref p) s') :
    wpAny (model P w) A (call (.builtin "sorted") [.ref a]) Q E s := by
  obtain ⟨o, es, ep, t, ho, hex, hd, g, nd, hm, hb, hf, hn, hr, hl⟩ := R
  refine Calls.call_function_entry kind_sorted plain_sorted entry_sorted (args_sorted1 _) ?_
  unfold Builtin.«sorted»
  refine wpAny_bind (m := checkCount "sorted" 1 1 _) (wpAny_pure ?_)
  refine wpAny_bind (L2.collect_set (A := A.in1) hh ⟨o, ho, hex.1, hd⟩ hf hb hr hl fun s1 vs k1 hz1 g1 o1 pm => ?_)
  have hev : ∀ v ∈ vs, ∃ k, K.knd.is k v = true := fun v hv => by
    obtain ⟨e, he, rfl⟩ := List.mem_map.mp (pm.mem_iff.mp hv)
    obtain ⟨k, z, _⟩ := g e he
    exact ⟨k, z⟩
  have pk : (vs.map K.rd).Perm (es.toList.map (kG K)) := by
    have := pm.map K.rd
    rwa [List.map_map] at this
  have hvl : vs.length ≤ sizeLine := by
    rw [pm.length_eq, List.length_map, Array.length_toList, hn, sizeLine_eq]
    omega
  refine wpAny_bind (wpAny_newList ?_ hvl)
  have hoL : (s1.heap.push (seqObj "list" vs.toArray 0)).get? s1.heap.objs.size = some (seqObj "list" vs.toArray 0) := Heap.get?_push_size _ rfl
  have er := each_rd hev
  refine wpAny_bind (wpAny_holding (PySem.W.list_sort_data (s := { s1 with heap := s1.heap.push (seqObj "list" vs.toArray 0) }) (bs := vs.map K.rd) (enc := K.enc) (R := fun v k => K.knd.is k v = true) hoL er
    (each_imp (fun v k z => by obtain ⟨as, h1, h2⟩ := K.hen k v z (s1.heap.push (seqObj "list" vs.toArray 0)); exact ⟨as, h1, h2 _⟩) er) (PySem.W.AllAlike.of fun b b' => K.hal b b') (PySem.W.Sortable.others fun b => K.hno b) (by rw [List.length_map]; exact hvl)
    (fun b _ => by rw [K.hde b]; show A.in1.units + 1 + 0 < cLine; have : A.in1.units = A.units + 1 := rfl; omega) fun out hlen he => ?_))
  obtain ⟨c, hc⟩ := sortedHeap_at (vs := vs) (out := List.toArray out) hoL
  have pr := List.mergeSort_perm (vs.map K.rd) (PySem.W.dataLe false K.enc)
  have pa := pr.trans pk
  refine wpAny_pure ⟨_, rfl, hQ _ s1.heap.objs.size out c _ (fun b u e => ?_) g1 o1 hz1 hc he (by rw [pa.length_eq, List.length_map, Array.length_toList, hn]) (pa.nodup_iff.mpr nd) (fun k => pa.mem_iff.trans (hm k).symm) (PySem.W.sort_pairwise (PySem.W.sortLe_total _ _ _) _)⟩
  have q := k1 b u e
  have hlt := Heap.lt_size q
  show (sortedHeap (s1.heap.push (seqObj "list" vs.toArray 0)) s1.heap.objs.size vs (List.toArray out)).get? b = some u
  rw [sortedHeap_old (Nat.ne_of_lt hlt) (by rw [size_push']; exact Nat.lt_succ_of_lt hlt)]
  exact Heap.get?_push_of_some _ q
end
end DL

set_option Elab.async false
set_option linter.all false
set_option maxRecDepth 100000
set_option maxHeartbeats 4000000
namespace DL
open PySem PySem.Spec PyProof.Rows L2
/-! ### sorted(set(..)) of ints, of texts -/
theorem int_shape {P : Program} {w : World} {k : Int} {v : Value} (h : (PySem.intKind P w).is k v = true) : ∃ t, v = .int k t := by
  cases v with
  | int i t =>
    have : i = k := by simpa [PySem.intKind, Value.isInt] using h
    exact ⟨t, by rw [this]⟩
  | _ => cases h
def rkI (P : Program) (w : World) : Rk P w Int where
  knd := PySem.intKind P w
  rd := fun v => match v with
    | .int i _ => i
    | _ => 0
  hrd := fun k v h => by obtain ⟨t, rfl⟩ := int_shape h; rfl
  hsc := fun k v h => by obtain ⟨t, rfl⟩ := int_shape h; rfl
  enc := .int
  hen := fun k v h hp => by obtain ⟨t, rfl⟩ := int_shape h; exact ⟨[], .int k t, fun a => by simp⟩
  hal := fun a b => by simp [PySem.W.alike]
  hno := fun a => ⟨(by intro z; cases z), (by intro xs z; cases z)⟩
  hde := fun a => by simp [PyData.depth]
  vz := V.int
  hvz := fun k v h => int_shape h
def rkS (P : Program) (w : World) : Rk P w Str where
  knd := PySem.strKind P w
  rd := fun v => match v with
    | .str i _ => i
    | _ => ""
  hrd := fun k v h => by obtain ⟨t, rfl⟩ := Value.isStrOf_shape h; rfl
  hsc := fun k v h => by obtain ⟨t, rfl⟩ := Value.isStrOf_shape h; rfl
  enc := .str
  hen := fun k v h hp => by obtain ⟨t, rfl⟩ := Value.isStrOf_shape h; exact ⟨[], .str k t, fun a => by simp⟩
  hal := fun a b => by simp [PySem.W.alike]
  hno := fun a => ⟨(by intro z; cases z), (by intro xs z; cases z)⟩
  hde := fun a => by simp [PyData.depth]
  vz := V.str
  hvz := fun k v h => Value.isStrOf_shape h
theorem each_ints {P : Program} {w : World} : ∀ {its : List Value} {ns : List Int}, Vals (ns.map V.int) its → PySem.W.EachIs (fun v k => (rkI P w).knd.is k v = true) its ns
  | _, [], .nil => .nil
  | _, n :: ns, .cons r t => .cons (by obtain ⟨tk, rfl⟩ := r; exact intKind_is P w n tk) (each_ints t)
theorem each_strs {P : Program} {w : World} : ∀ {its : List Value} {ns : List Str}, Vals (ns.map V.str) its → PySem.W.EachIs (fun v k => (rkS P w).knd.is k v = true) its ns
  | _, [], .nil => .nil
  | _, n :: ns, .cons r t => .cons (by obtain ⟨tk, rfl⟩ := r; exact strKind_is P w n tk) (each_strs t)
theorem vals_each {κ : Type} [DecidableEq κ] {P : Program} {w : World} (K : Rk P w κ) : ∀ {out : List Value} {r : List κ}, PySem.W.EachIs (fun v k => K.knd.is k v = true) out r → Vals (r.map K.vz) out
  | _, _, .nil => .nil
  | _, _, .cons h1 h2 => .cons (K.hvz _ _ h1) (vals_each K h2)
section
variable {X : Cx} {pins : List (Addr × Obj)} {σ : L2.St} {H : Hp} {s : Shared}
def rSet1 (K : PySem.W.Frag) (P : Program) (w : World) {κ : Type} [DecidableEq κ] (k : Rk P w κ) (x : V) (H : Hp) (Q : VK) : Prop := ∃ (l : Addr) (ks : List κ), x = .ref l ∧ (SqL K H l (ks.map k.vz) ∨ SqT K H l (ks.map k.vz)) ∧ ks.length ≤ 4000 ∧
  ∀ (r : List κ) (p : Addr), r.Nodup → (∀ j, j ∈ r ↔ j ∈ ks) → r.Pairwise (fun x y => PySem.W.dataLe false k.enc x y = true) → H p = none → Q (.ref p) (upd H p (.lst (r.map k.vz)))
theorem end_set {κ : Type} [DecidableEq κ] (k : Rk X.prog X.w κ) (calm : X.calm = true) (hu : X.A.units + 64 < cLine) {ks : List κ} {h' : Heap} {tk c : Nat} {a : Addr} {Q : VK} (J : Inv X pins σ H s) (hz : ks.length ≤ 4000) (R : SetG k h' a (fun j => decide (j ∈ ks)) c) (hc : c ≤ ks.length) (hk : ∀ b o, s.heap.get? b = some o → h'.get? b = some o)
    (q : ∀ (r : List κ) (p : Addr), r.Nodup → (∀ j, j ∈ r ↔ j ∈ ks) → r.Pairwise (fun x y => PySem.W.dataLe false k.enc x y = true) → H p = none → Q (.ref p) (upd H p (.lst (r.map k.vz)))) :
    wpAny (model X.prog X.w) X.A (call (.builtin "sorted") [.ref a]) (EP X pins σ Q) X.xe { s with heap := h', toks := tk } := by
  have J1 : Inv X pins σ H { s with heap := h', toks := tk } := J.kept hk
  refine sorted_setG (s := { s with heap := h', toks := tk }) R (by omega) (J.ok.hd calm) (by omega) fun s' p out c2 r k1 g1 o1 hp hg he hrl nd hm pw => ?_
  have hlen : (r.map k.vz).length ≤ sizeLine := by
    rw [List.length_map, sizeLine_eq]
    omega
  have hn : H p = none := J1.hok.fresh hp
  have hv : Vals (r.map k.vz) out := vals_each k he
  have J2 : Inv X pins σ (upd H p (.lst (r.map k.vz))) { { s with heap := h', toks := tk } with heap := s'.heap, gens := s'.gens, drawn := s'.drawn, toks := s'.toks } :=
    J1.call (ch := []) (Un.laid k1 hp hn) (J1.hok.laid k1 hp ⟨hlen, out, c2, hv, hg⟩) (by rw [g1]; exact J1.bare) (fun _ z => nomatch z)
  have e : s' = { { s with heap := h', toks := tk } with heap := s'.heap, gens := s'.gens, drawn := s'.drawn, toks := s'.toks } := by
    cases s'
    cases s
    cases o1
    rfl
  rw [e]
  exact ⟨.ref p, _, J2, rfl, q r p nd (fun j => (hm j).trans (by simp)) pw hn⟩
def rSortSet (K : PySem.W.Frag) (P : Program) (w : World) (x : V) (H : Hp) (Q : VK) : Prop := rSet1 K P w (rkI P w) x H Q ∨ rSet1 K P w (rkS P w) x H Q
theorem pe_sortSet {a : Expr} {ta : TE} {p p2 q pos : Pos} (calm : X.calm = true) (hu : X.A.units + 64 < cLine) (gl : Gl X "sorted") (nm : X.mg "sorted" = none) (gl2 : Gl X "set") (nm2 : X.mg "set" = none) (ha : PE X a ta)
    (na : starEach [a] X.env = (false, eval a X.env) :: starEach [] X.env := by rfl) : PE X (.Call (.Name "sorted" p) [.Call (.Name "set" p2) [a] [] q] [] pos) (fun σ H Q => ta σ H fun x H1 => rSortSet X.K X.prog X.w x H1 Q) := by
  refine ⟨fun pins s σ H Q I h => ?_⟩
  refine Call_ (ld_blt I gl nm (u := .builtin "sorted") (by first | rfl | decide +kernel) ?_)
  refine callWith_builtin1 (args_cons ?_ rfl) rfl rfl
  refine Call_ (ld_blt I gl2 nm2 boot_set ?_)
  refine callWith_type1 (args_cons (thn (ha.run pins s σ H _ I h) fun v t1 ⟨x, G, J, r1, fin⟩ => args_nil ?_) na) na rfl
  rcases fin with ⟨l, ks, rfl, hq, hz, fin⟩ | ⟨l, ks, rfl, hq, hz, fin⟩
  · cases r1
    rcases hq with hq | hq
    · obtain ⟨its, r, pl, _⟩ := J.list hq
      exact call_setG_list (K := rkI X.prog X.w) ks (J.ok.hd calm) pl.isList (by simpa using each_ints (P := X.prog) (w := X.w) r) (by unfold scanBound; omega) fun h' tk c R hc hk => args_nil (end_set (rkI X.prog X.w) calm hu J hz R hc hk fin)
    · obtain ⟨its, r, pl, _⟩ := J.tuple hq
      exact call_setG_tuple (K := rkI X.prog X.w) ks (J.ok.hd calm) pl (by simpa using each_ints (P := X.prog) (w := X.w) r) (by unfold scanBound; omega) fun h' tk c R hc hk => args_nil (end_set (rkI X.prog X.w) calm hu J hz R hc hk fin)
  · cases r1
    rcases hq with hq | hq
    · obtain ⟨its, r, pl, _⟩ := J.list hq
      exact call_setG_list (K := rkS X.prog X.w) ks (J.ok.hd calm) pl.isList (by simpa using each_strs (P := X.prog) (w := X.w) r) (by unfold scanBound; omega) fun h' tk c R hc hk => args_nil (end_set (rkS X.prog X.w) calm hu J hz R hc hk fin)
    · obtain ⟨its, r, pl, _⟩ := J.tuple hq
      exact call_setG_tuple (K := rkS X.prog X.w) ks (J.ok.hd calm) pl (by simpa using each_strs (P := X.prog) (w := X.w) r) (by unfold scanBound; omega) fun h' tk c R hc hk => args_nil (end_set (rkS X.prog X.w) calm hu J hz R hc hk fin)
end
/-! ### as data -/
/-- rising, each once -/
def setI (ns : List Int) : List Int := srtI ns.eraseDups
def setT (ks : List Str) : List Str := srtS ks.eraseDups
theorem eraseDups_nodup {α : Type} [BEq α] [LawfulBEq α] : ∀ (n : Nat) (l : List α), l.length ≤ n → l.eraseDups.Nodup
  | _, [], _ => by simp
  | 0, _ :: _, h => by simp at h
  | n + 1, x :: l, h => by
    rw [List.eraseDups_cons, List.nodup_cons]
    have hl : (l.filter fun b => !b == x).length ≤ n := Nat.le_trans (List.length_filter_le _ _) (by simpa using h)
    refine ⟨fun m => ?_, eraseDups_nodup n _ hl⟩
    have := List.mem_eraseDups.mp m
    have := (List.mem_filter.mp this).2
    simp at this
theorem setI_mem {ns : List Int} {k : Int} : k ∈ setI ns ↔ k ∈ ns := (srtI_perm _).mem_iff.trans List.mem_eraseDups
theorem setT_mem {ns : List Str} {k : Str} : k ∈ setT ns ↔ k ∈ ns := (srtS_perm _).mem_iff.trans List.mem_eraseDups
theorem setI_nd (ns : List Int) : (setI ns).Nodup := (srtI_perm _).nodup_iff.mpr (eraseDups_nodup _ _ (Nat.le_refl _))
theorem setT_nd (ns : List Str) : (setT ns).Nodup := (srtS_perm _).nodup_iff.mpr (eraseDups_nodup _ _ (Nat.le_refl _))
theorem setI_lt (ns : List Int) : (setI ns).Pairwise (· < ·) := by
  have h1 := srtI_pw ns.eraseDups
  have h2 := setI_nd ns
  exact (List.Pairwise.and h1 h2).imp fun {a b} h => by have := h.1; have := h.2; omega
theorem setT_lt (ns : List Str) : (setT ns).Pairwise ltS := by
  have h1 := srtS_pw ns.eraseDups
  have h2 := setT_nd ns
  exact (List.Pairwise.and h1 h2).imp fun {a b} h => ltS_of h.1 h.2
theorem lt_unique {α : Type} {lt : α → α → Prop} (tr : ∀ a b c, lt a b → lt b c → lt a c) (ir : ∀ a, ¬ lt a a) : ∀ {l m : List α}, l.Pairwise lt → m.Pairwise lt → (∀ k, k ∈ l ↔ k ∈ m) → l = m
  | [], [], _, _, _ => rfl
  | [], b :: m, _, _, h => absurd ((h b).mpr List.mem_cons_self) (by simp)
  | a :: l, [], _, _, h => absurd ((h a).mp List.mem_cons_self) (by simp)
  | a :: l, b :: m, h1, h2, h => by
    have p1 := List.pairwise_cons.mp h1
    have p2 := List.pairwise_cons.mp h2
    have e : a = b := by
      rcases List.mem_cons.mp ((h a).mp List.mem_cons_self) with e | q
      · exact e
      · rcases List.mem_cons.mp ((h b).mpr List.mem_cons_self) with e | q2
        · exact e.symm
        · exact absurd (tr _ _ _ (p1.1 b q2) (p2.1 a q)) (ir a)
    subst e
    congr 1
    refine lt_unique tr ir p1.2 p2.2 fun k => ⟨fun m1 => ?_, fun m1 => ?_⟩
    · rcases List.mem_cons.mp ((h k).mp (List.mem_cons_of_mem _ m1)) with e | q
      · exact absurd (p1.1 k m1) (by rw [e]; exact ir a)
      · exact q
    · rcases List.mem_cons.mp ((h k).mpr (List.mem_cons_of_mem _ m1)) with e | q
      · exact absurd (p2.1 k m1) (by rw [e]; exact ir a)
      · exact q
theorem setI_eq {l ns : List Int} (h1 : l.Pairwise (· < ·)) (h : ∀ k, k ∈ l ↔ k ∈ ns) : l = setI ns :=
  lt_unique (lt := fun a b : Int => a < b) (fun _ _ _ a b => Int.lt_trans a b) (fun a => Int.lt_irrefl a) h1 (setI_lt ns) fun k => (h k).trans setI_mem.symm
theorem setT_eq {l ns : List Str} (h1 : l.Pairwise ltS) (h : ∀ k, k ∈ l ↔ k ∈ ns) : l = setT ns :=
  lt_unique (lt := ltS) (fun _ _ _ a b => ltS_trans a b) ltS_irrefl h1 (setT_lt ns) fun k => (h k).trans setT_mem.symm
def gSortSet : List PyData → Option Out
  | [.list l] => match ints? l with
    | some ns => if ns.length ≤ 4000 then some (.nw (.list ((setI ns).map .int))) else none
    | none => (strs? l).bind fun ks => if ks.length ≤ 4000 then some (.nw (.list ((setT ks).map .str))) else none
  | [.tuple l] => match ints? l with
    | some ns => if ns.length ≤ 4000 then some (.nw (.list ((setI ns).map .int))) else none
    | none => (strs? l).bind fun ks => if ks.length ≤ 4000 then some (.nw (.list ((setT ks).map .str))) else none
  | _ => none
theorem set1_I {K : PySem.W.Frag} {P : Program} {w : World} {N : Addr → Prop} {H : Hp} {Q : VK} {a : Addr} {ns : List Int} (hz : ns.length ≤ 4000) (hs : SqL K H a (ns.map V.int) ∨ SqT K H a (ns.map V.int))
    (q : ∀ H' v, Same H H' → OutOk K N H H' v (.nw (.list ((setI ns).map .int))) → Q v H') : rSortSet K P w (.ref a) H Q :=
  .inl ⟨a, ns, rfl, hs, hz, fun r p nd hm pw hn => by
    have e : r = setI ns := setI_eq ((List.Pairwise.and pw nd).imp fun {x y} h => by
      have h1 := h.1
      have h2 := h.2
      rw [show PySem.W.dataLe false (rkI P w).enc x y = decide (x ≤ y) from by rw [show (rkI P w).enc = fun b => PyData.int (id b) from rfl, PySem.W.dataLe_int]; rfl] at h1
      simp at h1
      omega) hm
    rw [e]
    exact q _ _ (same_upd hn) ⟨p, rfl, hn, _, upd_same, ra_ints _⟩⟩
theorem set1_S {K : PySem.W.Frag} {P : Program} {w : World} {N : Addr → Prop} {H : Hp} {Q : VK} {a : Addr} {ns : List Str} (hz : ns.length ≤ 4000) (hs : SqL K H a (ns.map V.str) ∨ SqT K H a (ns.map V.str))
    (q : ∀ H' v, Same H H' → OutOk K N H H' v (.nw (.list ((setT ns).map .str))) → Q v H') : rSortSet K P w (.ref a) H Q :=
  .inr ⟨a, ns, rfl, hs, hz, fun r p nd hm pw hn => by
    have e : r = setT ns := setT_eq ((List.Pairwise.and pw nd).imp fun {x y} h => by
      have h1 := h.1
      rw [show PySem.W.dataLe false (rkS P w).enc x y = decide (x.cps.toList ≤ y.cps.toList) from by rw [show (rkS P w).enc = fun b => PyData.str (id b) from rfl, PySem.W.dataLe_str]; rfl] at h1
      exact ltS_of h1 h.2) hm
    rw [e]
    exact q _ _ (same_upd hn) ⟨p, rfl, hn, _, upd_same, ra_strs _⟩⟩
theorem i_sortSet {K : PySem.W.Frag} {P : Program} {w : World} : Impl K (L1r fun x H Q => rSortSet K P w x H Q) gSortSet := by
  intro N H vs ds o Q h g q
  unfold gSortSet at g
  split at g
  · obtain ⟨v, rfl, h1⟩ := h.one
    obtain ⟨a, xs, rfl, e1, r1⟩ := h1.list
    split at g
    · rename_i ns e
      split at g
      · rename_i hz
        cases g
        have e2 := ints_ra e r1
        subst e2
        exact set1_I hz (.inl e1.sq) q
      · cases g
    · rw [Option.bind_eq_some_iff] at g
      obtain ⟨ks, e, g⟩ := g
      split at g
      · rename_i hz
        cases g
        have e2 := strs_ra e r1
        subst e2
        exact set1_S hz (.inl e1.sq) q
      · cases g
  · obtain ⟨v, rfl, h1⟩ := h.one
    obtain ⟨a, xs, rfl, e1, r1⟩ := h1.tup
    split at g
    · rename_i ns e
      split at g
      · rename_i hz
        cases g
        have e2 := ints_ra e r1
        subst e2
        exact set1_I hz (.inr e1) q
      · cases g
    · rw [Option.bind_eq_some_iff] at g
      obtain ⟨ks, e, g⟩ := g
      split at g
      · rename_i hz
        cases g
        have e2 := strs_ra e r1
        subst e2
        exact set1_S hz (.inr e1) q
      · cases g
  · cases g
section
variable {X : Cx} {W : XW}
theorem d_sortSet {a : Expr} {m : M Sl} {p p2 q pos : Pos} (calm : X.calm = true) (hu : X.A.units + 64 < cLine) (gl : Gl X "sorted") (nm : X.mg "sorted" = none) (gl2 : Gl X "set") (nm2 : X.mg "set" = none) (ha : PE X a (tV X.K W m))
    (na : starEach [a] X.env = (false, eval a X.env) :: starEach [] X.env := by rfl) : PE X (.Call (.Name "sorted" p) [.Call (.Name "set" p2) [a] [] q] [] pos) (tV X.K W (mUn gSortSet m)) :=
  PE.imp (pe_sortSet calm hu gl nm gl2 nm2 ha na) fun σ H Q ⟨Γ, δ, γ, r, p⟩ => ⟨Γ, δ, γ, r, (Post.bind p).imp fun x δ1 p1 v H1 r1 =>
    run_op i_sortSet (vs := [v]) (rs := [x]) (γ' := γ) r1 (fun e m => by
      rcases List.mem_cons.mp m with rfl | m
      · exact List.mem_cons_self
      · cases m) rfl (p1.imp fun s δ' k v' H'' r' => k v' H'' (drop1 (γ₀ := [(some v, x)]) r'))⟩
end
section
variable {δ : List Sl} {Q : Sl → List Sl → Prop} {ns : List Int} {ks : List Str}
theorem ints_none_strs : ∀ {ks : List Str}, ks ≠ [] → ints? (ks.map PyData.str) = none
  | [], h => absurd rfl h
  | k :: ks, _ => rfl
def setOut (l : List PyData) : Option Out := match ints? l with
  | some ns => if ns.length ≤ 4000 then some (.nw (.list ((setI ns).map .int))) else none
  | none => (strs? l).bind fun ks => if ks.length ≤ 4000 then some (.nw (.list ((setT ks).map .str))) else none
theorem setOut_I (h : ns.length ≤ 4000) : setOut (ns.map .int) = some (.nw (.list ((setI ns).map .int))) := by
  unfold setOut
  rw [ints_of]
  exact if_pos h
theorem setOut_S (h : ks.length ≤ 4000) : setOut (ks.map .str) = some (.nw (.list ((setT ks).map .str))) := by
  unfold setOut
  cases ks with
  | nil => simp [ints?, setI, setT, srtI, srtS]
  | cons a r =>
    rw [ints_none_strs (by simp), strs_of]
    exact if_pos h
theorem wg_setI (h : ns.length ≤ 4000) : wG (gSortSet [.list (ns.map .int)]) δ Q = Q (.ow (.list ((setI ns).map .int))) δ := by
  show wG (setOut _) δ Q = _
  rw [setOut_I h]
  exact wG_some
theorem wg_setIt (h : ns.length ≤ 4000) : wG (gSortSet [.tuple (ns.map .int)]) δ Q = Q (.ow (.list ((setI ns).map .int))) δ := by
  show wG (setOut _) δ Q = _
  rw [setOut_I h]
  exact wG_some
theorem wg_setS (h : ks.length ≤ 4000) : wG (gSortSet [.list (ks.map .str)]) δ Q = Q (.ow (.list ((setT ks).map .str))) δ := by
  show wG (setOut _) δ Q = _
  rw [setOut_S h]
  exact wG_some
theorem wg_setSt (h : ks.length ≤ 4000) : wG (gSortSet [.tuple (ks.map .str)]) δ Q = Q (.ow (.list ((setT ks).map .str))) δ := by
  show wG (setOut _) δ Q = _
  rw [setOut_S h]
  exact wG_some
end
end DL

set_option Elab.async false
set_option linter.all false
set_option maxRecDepth 100000
set_option maxHeartbeats 4000000
namespace DL
open PySem PySem.Spec PyProof.Rows L2
/-! ### d.values(), d.items() walked -/
def valsM (i : Nat) : M (List PyData) := fun δ => match δ[i]? with
  | some (.fr ds) => .ok (ds.map (·.2)) δ
  | _ => .no
def pairD (p : PyData × PyData) : PyData := .tuple [p.1, p.2]
def prsM (i : Nat) : M (List PyData) := fun δ => match δ[i]? with
  | some (.fr ds) => if ds.all (fun p => keyItem p.2) = true then .ok (ds.map pairD) δ else .no
  | _ => .no
section
variable {X : Cx} {W : XW} {pos : Pos}
theorem RK.at_ {N : Addr → Prop} {H : Hp} : ∀ {kvs : List (Key × V)} {ds : List (PyData × PyData)}, RK X.K N H kvs ds → ∀ {j : Nat} {k : Key} {v : V}, kvs[j]? = some (k, v) → ∃ d, ds[j]? = some (keyD k, d) ∧ R X.K N H v d
  | _, _, .nil, j, k, v, h => by simp at h
  | _, _, .cons h0 r, 0, k, v, h => by
    simp only [List.getElem?_cons_zero, Option.some.injEq] at h
    cases h
    exact ⟨_, rfl, h0⟩
  | _, _, .cons h0 r, j + 1, k, v, h => by
    simp only [List.getElem?_cons_succ] at h
    obtain ⟨d, e, q⟩ := RK.at_ r h
    exact ⟨d, by simpa using e, q⟩
theorem d_vals (i : Nat) {tg : Expr} {x : Str} {p apos cpos : Pos} (hN : X.N[i]? = some x := by rfl) (hv : Vis X.env.scope x := by first | exact Or.inl rfl | exact Or.inr (Or.inl rfl) | exact Or.inr (Or.inr rfl)) (hd : (x == ("__debug__" : Str)) = false := by decide)
    (hcd : (x == ("__classdict__" : Str)) = false := by decide) (hbase : attributeBase (.Name x p) "values" X.env (eval (.Name x p) X.env) = eval (.Name x p) X.env := by rfl) (hline : (apos.endLine == cpos.line) = true := by rfl) :
    PI X tg (.Call (.Attribute (.Name x p) "values" apos) [] [] cpos) (tI X.K W (valsM i)) :=
  PI.imp (pi_values (pe_var hN hv hd hcd) hbase hline) fun σ H R ⟨Γ, δ, γ, r, q⟩ => by
    unfold valsM at q
    cases h : δ[i]? with
    | none => rw [h] at q; exact q.elim
    | some s =>
      rw [h] at q
      cases s with
      | fr ds =>
        obtain ⟨o, h1, h2⟩ := zip_at r.len.eq h
        obtain ⟨a, e1, n, ob, kvs, e, rr⟩ := r.rel.each _ (List.mem_append_left _ (List.mem_of_getElem? h2))
        have e2 : o = some (.ref a) := e1
        subst e2
        refine ⟨_, h1, a, ob, kvs, rfl, e, ?_⟩
        have hl : kvs.length = (ds.map (·.2)).length := by rw [List.length_map]; exact rr.length
        have r1 : RS X.K Γ σ δ ((some (.ref a), .fr ds) :: γ) H := ⟨r.len, r.rel.push rfl ⟨a, rfl, n, ob, kvs, e, rr⟩⟩
        have n1 : Nn Γ (σ.zip δ ++ ((some (.ref a), Sl.fr ds) :: γ)) a := ⟨n.1, fun z => n.2 (by
          rcases OwnA.app.mp z with z | z
          · exact OwnA.app.mpr (.inl z)
          · obtain ⟨y, hy, oy, ey⟩ := z
            rcases List.mem_cons.mp hy with rfl | hy
            · cases oy
            · exact OwnA.app.mpr (.inr ⟨y, hy, oy, ey⟩))⟩
        refine q _ H [(some (.ref a), .fz ob kvs), (some (.ref a), .fr ds)] (fun e m => by
          rcases List.mem_cons.mp m with rfl | m
          · rfl
          · rcases List.mem_cons.mp m with rfl | m
            · rfl
            · cases m) ⟨r1.len, r1.rel.push rfl ⟨a, rfl, n1, e⟩⟩ ?_
        intro Γ2 σ2 δ2 γ2 H2 r2 j
        obtain ⟨a', e1', _, e'⟩ := r2.rel.each _ (List.mem_append_right _ List.mem_cons_self)
        cases e1'
        obtain ⟨a3, e3, _, ob3, kvs3, e4, rr3⟩ := r2.rel.each _ (List.mem_append_right _ (List.mem_cons_of_mem _ List.mem_cons_self))
        cases e3
        rw [e'] at e4
        cases e4
        refine ⟨fun hj => ⟨e', by omega⟩, fun hj => ⟨e', by omega⟩, fun y H3 d hy hd => ?_⟩
        obtain ⟨rfl, k, hk⟩ := hy
        obtain ⟨d2, f1, f2⟩ := RK.at_ rr3 hk
        rw [List.getElem?_map, f1] at hd
        cases hd
        exact ⟨r2.len, r2.rel.push rfl ⟨_, rfl, f2⟩⟩
      | _ => exact q.elim
theorem d_prs (i : Nat) {elts : List Expr} {kk : Nat} {tpos : Pos} {x : Str} {p apos cpos : Pos} (hN : X.N[i]? = some x := by rfl) (hv : Vis X.env.scope x := by first | exact Or.inl rfl | exact Or.inr (Or.inl rfl) | exact Or.inr (Or.inr rfl)) (hd : (x == ("__debug__" : Str)) = false := by decide)
    (hcd : (x == ("__classdict__" : Str)) = false := by decide) (hbase : attributeBase (.Name x p) "items" X.env (eval (.Name x p) X.env) = eval (.Name x p) X.env := by rfl) (hline : (apos.endLine == cpos.line) = true := by rfl) :
    PI X (.Tuple elts kk tpos) (.Call (.Attribute (.Name x p) "items" apos) [] [] cpos) (tI X.K W (prsM i)) :=
  PI.imp (pi_items (pe_var hN hv hd hcd) hbase hline) fun σ H R ⟨Γ, δ, γ, r, q⟩ => by
    unfold prsM at q
    cases h : δ[i]? with
    | none => rw [h] at q; exact q.elim
    | some s =>
      rw [h] at q
      cases s with
      | fr ds =>
        dsimp only at q
        by_cases hall : ds.all (fun p => keyItem p.2) = true
        · rw [if_pos hall] at q
          obtain ⟨o, h1, h2⟩ := zip_at r.len.eq h
          obtain ⟨a, e1, n, ob, kvs, e, rr⟩ := r.rel.each _ (List.mem_append_left _ (List.mem_of_getElem? h2))
          have e2 : o = some (.ref a) := e1
          subst e2
          refine ⟨_, h1, a, ob, kvs, rfl, e, ?_⟩
          have hl : kvs.length = (ds.map pairD).length := by rw [List.length_map]; exact rr.length
          have r1 : RS X.K Γ σ δ ((some (.ref a), .fr ds) :: γ) H := ⟨r.len, r.rel.push rfl ⟨a, rfl, n, ob, kvs, e, rr⟩⟩
          have n1 : Nn Γ (σ.zip δ ++ ((some (.ref a), Sl.fr ds) :: γ)) a := ⟨n.1, fun z => n.2 (by
            rcases OwnA.app.mp z with z | z
            · exact OwnA.app.mpr (.inl z)
            · obtain ⟨y, hy, oy, ey⟩ := z
              rcases List.mem_cons.mp hy with rfl | hy
              · cases oy
              · exact OwnA.app.mpr (.inr ⟨y, hy, oy, ey⟩))⟩
          refine q _ H [(some (.ref a), .fz ob kvs), (some (.ref a), .fr ds)] (fun e m => by
            rcases List.mem_cons.mp m with rfl | m
            · rfl
            · rcases List.mem_cons.mp m with rfl | m
              · rfl
              · cases m) ⟨r1.len, r1.rel.push rfl ⟨a, rfl, n1, e⟩⟩ ?_
          intro Γ2 σ2 δ2 γ2 H2 r2 j
          obtain ⟨a', e1', _, e'⟩ := r2.rel.each _ (List.mem_append_right _ List.mem_cons_self)
          cases e1'
          obtain ⟨a3, e3, _, ob3, kvs3, e4, rr3⟩ := r2.rel.each _ (List.mem_append_right _ (List.mem_cons_of_mem _ List.mem_cons_self))
          cases e3
          rw [e'] at e4
          cases e4
          refine ⟨fun hj => ⟨e', by omega⟩, fun hj => ⟨e', by omega⟩, fun y H3 d hy hd => ?_⟩
          obtain ⟨T, k, v, hk, rfl, hT, rfl⟩ := hy
          obtain ⟨d2, f1, f2⟩ := RK.at_ rr3 hk
          rw [List.getElem?_map, f1] at hd
          cases hd
          have ki : keyItem d2 = true := List.all_eq_true.mp hall _ (List.mem_of_getElem? f1)
          have kk : keyish [keyD k, d2] = true := by cases k <;> cases d2 <;> first | rfl | cases ki
          have r3 := r2.same (same_upd (o := .tup [kV k, v]) hT)
          have f3 : DL.R X.K (Nn Γ2 (σ2.zip δ2 ++ ((some (.ref a), .fz ob kvs) :: (some (.ref a), .fr ds) :: γ2))) (upd H2 T (.tup [kV k, v])) v d2 := f2.mono (fun _ n _ => n) (fun b u e _ => same_upd hT b u e) fun b u _ e => same_upd hT b u e
          exact ⟨r3.len, r3.rel.push rfl ⟨_, rfl, .tup upd_same (.cons (key_R k) (.cons f3 .nil)) kk⟩⟩
        · rw [if_neg hall] at q; exact q.elim
      | _ => exact q.elim
end
section
variable {δ : List Sl} {U : List PyData → List Sl → Prop}
@[simp ↓] theorem wM_vals (i : Nat) : wM (valsM i δ) U = match δ[i]? with
  | some (.fr ds) => U (ds.map (·.2)) δ
  | _ => False := by
  unfold valsM
  cases δ[i]? with
  | none => exact wM_no
  | some s => cases s <;> first | exact wM_ok | exact wM_no
@[simp ↓] theorem wM_prs (i : Nat) : wM (prsM i δ) U = match δ[i]? with
  | some (.fr ds) => ds.all (fun p => keyItem p.2) = true ∧ U (ds.map pairD) δ
  | _ => False := by
  unfold prsM
  cases δ[i]? with
  | none => exact wM_no
  | some s =>
    cases s with
    | fr ds =>
      dsimp only
      by_cases h : ds.all (fun p => keyItem p.2) = true
      · rw [if_pos h]; exact wM_ok.trans (propext ⟨fun q => ⟨h, q⟩, fun q => q.2⟩)
      · rw [if_neg h]; exact wM_no.trans (propext ⟨fun q => q.elim, fun q => h q.1⟩)
    | _ => exact wM_no
end
end DL

set_option Elab.async false
set_option linter.all false
set_option maxRecDepth 100000
set_option maxHeartbeats 4000000
namespace DL
open PySem PySem.Spec PyProof.Rows L2
/-! ### a call that changes a thing made for it -/
def callIT (F : PyData → List PyData → FRes) (rs : List Sl) : M Sl := fun δ => match rs with
  | .ow d :: rs' => match escs rs' with
    | some ds => match F d ds with
      | .ok r (some _) => .ok r δ
      | _ => .no
    | none => .no
  | _ => .no
section
variable {X : Cx} {W : XW} {pos : Pos}
theorem d_callIT {x : Str} {p : Pos} {f : Addr} {fd : FuncData} {k : Nat} {ps : List Str} {cl : Str → Value} {F : PyData → List PyData → FRes} {e : Expr} {es : List Expr} {ms : M (List Sl)} {E : XK} (G : FnOk X.prog X.w X.K X.mg X.base (L2.CX X.prog X.w) k f fd ps (spI X.K cl F)) (hr : Room k X.A) (hg : Gl X x) (hm : X.mg x = some (.ref f)) (hk : PySem.W.keepIn X.K (.ref f) = true)
    (hb : Binds X.K fd ps []) (hx : Passes (L2.CX X.prog X.w) X E) (ha : PA X (e :: es) (tAs X.K W ms))
    (hdb : (x == ("__debug__" : Str)) = false := by decide) (he : starEach (e :: es) X.env = (false, eval e X.env) :: starEach es X.env := by rfl) (hpl : (backTo pos (starEach es X.env)).any (·.1) = false := by rfl) :
    PE X (.Call (.Name x p) (e :: es) [] pos) (tV X.K W (ms >>= callIT F)) :=
  PE.imp (pe_call G hr hg hm hk hb .nil hx ha hdb he hpl) fun σ H Q ⟨Γ, δ, γ, r, p⟩ => ⟨Γ, δ, γ, r, (Post.bind p).imp fun rs δ1 p1 vs H1 hl r1 => by
    unfold callIT at p1
    cases rs with
    | nil => exact p1.elim
    | cons s0 rs' =>
      cases s0 with
      | ow d0 =>
        cases vs with
        | nil => cases hl
        | cons v vs' =>
            cases h1 : escs rs' with
            | none => simp only [h1] at p1; exact p1.elim
            | some ds =>
              simp only [h1] at p1
              have hso : (Sl.ow d0).own = true := rfl
              cases h2 : F d0 ds with
              | ok rr out =>
                cases out with
                | none => simp only [h2] at p1; exact p1.elim
                | some d1 =>
                    simp only [h2] at p1
                    have r3 : RS X.K Γ σ δ1 ((some v, Sl.ow d0) :: ((vs'.map some).zip rs' ++ γ)) H1 := r1
                    obtain ⟨q, eq, cq⟩ := own_ref (r3.rel) hso
                    cases eq
                    have r4 : RS X.K Γ σ δ1 ((vs'.map some).zip rs' ++ ((some (V.ref q), Sl.ow d0) :: γ)) H1 := r3.perm List.perm_middle.symm
                    have ra := r4.escs (Nat.succ.inj hl) h1
                    have r5 : RS X.K Γ σ δ1 ((some (V.ref q), Sl.ow d0) :: γ) H1 := r4.popN
                    obtain ⟨q', eq', cq'⟩ := own_ref (r5.rel) hso
                    cases eq'
                    rw [List.append_nil]
                    have hB : ¬ Nn Γ (σ.zip δ1 ++ (some (V.ref q), Sl.ow d0) :: γ) q := fun z => z.2 ⟨_, List.mem_append_right _ List.mem_cons_self, hso, rfl⟩
                    refine ⟨_, q, vs', d0, ds, rfl, ⟨r5.rel.unal, fun a n => r5.rel.nb a n.1, r5.rel.tb⟩, hB, cq', ra, ?_⟩
                    rw [h2]
                    intro v' H' k hc ok
                    -- the changed slot's thing, then the result
                    have r6 : Rel X.K Γ (σ.zip δ1) ((some (V.ref q), Sl.ow d1) :: γ) H' := r5.rel.changed hso rfl k (hc.mono (fun a n _ => n.1) (fun _ _ h _ => h) (fun _ _ _ h => h) fun _ h => h)
                    have r7 : Rel X.K Γ (σ.zip δ1) ((some v', rr) :: (some (V.ref q), Sl.ow d1) :: γ) H' := by
                      have nn : ∀ a, Nn Γ (σ.zip δ1 ++ (some (V.ref q), Sl.ow d0) :: γ) a → Nn Γ (σ.zip δ1 ++ (some (V.ref q), Sl.ow d1) :: γ) a := fun a n => ⟨n.1, fun z => n.2 (by
                        obtain ⟨y, hy, oy, ey⟩ := z
                        rcases List.mem_append.mp hy with hy | hy
                        · exact ⟨y, List.mem_append_left _ hy, oy, ey⟩
                        · rcases List.mem_cons.mp hy with rfl | hy
                          · exact ⟨_, List.mem_append_right _ List.mem_cons_self, hso, ey⟩
                          · exact ⟨y, List.mem_append_right _ (List.mem_cons_of_mem _ hy), oy, ey⟩)⟩
                      cases rr with
                      | sh d => exact r6.push rfl ⟨v', rfl, R.mono (fun a n _ => nn a n) (fun _ _ h _ => h) (fun _ _ _ h => h) ok⟩
                      | raw x => exact r6.push rfl (by cases ok; rfl)
                      | ow d =>
                        obtain ⟨np, rfl, hn, hcn⟩ := ok
                        have hc2 : Cn X.K (fun a => Nn Γ (σ.zip δ1 ++ (some (V.ref q), Sl.ow d0) :: γ) a ∧ a ≠ np) H' q d1 := hc.mono (fun a n _ => ⟨n.1, fun z => n.2 rfl (by rw [z])⟩) (fun _ _ h _ => h) (fun _ _ _ h => h) fun _ h => h
                        have r7 := r5.rel.avoid hso rfl k hn hcn.there hc2
                        have h0 : Γ.H0 np = none := r5.rel.kfr np hn
                        refine r7.adopt r5.rel.nb (r5.rel.fresh np hn) h0 (fun x m o z => ?_) (hcn.mono (fun a n _ => ⟨⟨n.1.1, n.2⟩, (nn a n.1).2⟩) (fun _ _ h _ => h) (fun _ _ _ h => h) fun _ h => h)
                        rcases List.mem_append.mp m with m | m
                        · have w := r5.rel.each x (List.mem_append_left _ m)
                          obtain ⟨ov, sl⟩ := x
                          cases sl with
                          | ow d => obtain ⟨p1, e1, _, _, c⟩ := w; rw [z] at e1; cases e1; exact c.there hn
                          | io k d => obtain ⟨p1, e1, _, c⟩ := w; rw [z] at e1; cases e1; exact c.there hn
                          | _ => cases o
                        · rcases List.mem_cons.mp m with rfl | m
                          · cases z; exact cq'.there hn
                          · have w := r5.rel.each x (List.mem_append_right _ (List.mem_cons_of_mem _ m))
                            obtain ⟨ov, sl⟩ := x
                            cases sl with
                            | ow d => obtain ⟨p1, e1, _, _, c⟩ := w; rw [z] at e1; cases e1; exact c.there hn
                            | io k d => obtain ⟨p1, e1, _, c⟩ := w; rw [z] at e1; cases e1; exact c.there hn
                            | _ => cases o
                      | _ => exact ok.elim
                    have r8 : RS X.K Γ σ δ1 ((some v', rr) :: γ) H' := ⟨r1.len, r7.sublist (List.Sublist.cons_cons _ (List.sublist_cons_self _ _))⟩
                    exact p1 v' H' r8
              | er ex => simp only [h2] at p1; exact p1.elim
              | no => simp only [h2] at p1; exact p1.elim
      | _ => exact p1.elim⟩
end
section
variable {Q : Sl → List Sl → Prop} {δ : List Sl} {ms : M (List Sl)}
def wIT (F : PyData → List PyData → FRes) (rs : List Sl) (δ : List Sl) (Q : Sl → List Sl → Prop) : Prop := match rs with
  | .ow d :: rs' => match escs rs' with
    | some ds => wI (F d ds) fun r _ => Q r δ
    | none => False
  | _ => False
@[simp] theorem wIT_ow {F : PyData → List PyData → FRes} {d : PyData} {rs : List Sl} : wIT F (.ow d :: rs) δ Q = match escs rs with
    | some ds => wI (F d ds) fun r _ => Q r δ
    | none => False := id rfl
@[simp ↓] theorem wM_callIT (F : PyData → List PyData → FRes) : wM ((ms >>= callIT F) δ) Q = wM (ms δ) fun rs δ1 => wIT F rs δ1 Q := by
  refine wM_b fun rs δ1 => ?_
  unfold callIT wIT
  cases rs with
  | nil => exact wM_no
  | cons s r =>
    cases s with
    | ow d =>
      dsimp only
      cases escs r with
      | none => exact wM_no
      | some ds =>
        dsimp only
        cases F d ds with
        | ok rr out =>
          cases out with
          | none => exact wM_no.trans wI_okn.symm
          | some d1 => exact wM_ok.trans (wI_oks (Q := fun r _ => Q r δ1)).symm
        | er e => exact wM_no.trans wI_er.symm
        | no => exact wM_no.trans wI_no.symm
    | _ => exact wM_no
end
end DL
namespace DL
open PySem PySem.Spec PyProof.Rows L2
/-! ### a def that calls itself: nothing is promised of none -/
theorem fn_noP {P : Program} {w : World} {K : PySem.W.Frag} {mg : Str → Option Value} {base : Heap} {CX : CXT} {k : Nat} {f : Addr} {fd : FuncData} {ps : List Str} {cl : Str → Value} : FnOk P w K mg base CX k f fd ps (spP K cl fun _ => .no) :=
  ⟨fun _ _ _ _ ⟨_, _, _, _, h⟩ => h.elim, fun _ _ _ _ _ _ _ _ _ _ _ _ _ ⟨_, _, _, _, h⟩ => h.elim⟩
theorem fn_noI {P : Program} {w : World} {K : PySem.W.Frag} {mg : Str → Option Value} {base : Heap} {CX : CXT} {k : Nat} {f : Addr} {fd : FuncData} {ps : List Str} {cl : Str → Value} : FnOk P w K mg base CX k f fd ps (spI K cl fun _ _ => .no) :=
  ⟨fun _ _ _ _ ⟨_, _, _, _, _, _, _, _, _, _, h⟩ => h.elim, fun _ _ _ _ _ _ _ _ _ _ _ _ _ ⟨_, _, _, _, _, _, _, _, _, _, h⟩ => h.elim⟩
end DL

set_option Elab.async false
set_option linter.all false
set_option maxRecDepth 100000
set_option maxHeartbeats 1000000
namespace DL
open PySem PySem.Spec PyProof.Rows L2
/-! ### texts sorted as data -/
theorem strs_sortOk {ks : List Str} (h : ∀ k ∈ ks, PyData.strOk k = true) (hz : ks.length ≤ 1000000) : sortOk (ks.map .str) = true := by
  have h1 := sh_all (n := 0) (l := ks.map PyData.str) fun x m => by
    obtain ⟨k, hk, rfl⟩ := List.mem_map.mp m
    exact Sh.str (h k hk)
  unfold sortOk
  simp only [Bool.and_eq_true, Bool.or_eq_true, decide_eq_true_eq, List.all_eq_true]
  refine ⟨⟨h1.1, by omega⟩, by simpa using hz, fun x hx y hy => ?_, .inr fun x hx => ?_⟩
  · obtain ⟨a, _, rfl⟩ := List.mem_map.mp hx
    obtain ⟨b, _, rfl⟩ := List.mem_map.mp hy
    simp [PySem.W.alike]
  · obtain ⟨a, _, rfl⟩ := List.mem_map.mp hx
    rfl
theorem srtG_strs (ks : List Str) : srtG (ks.map .str) = (srtS ks).map .str := by
  unfold srtG srtS
  rw [← List.map_mergeSort (r := leS)]
  intro a _ b _
  show leS a b = PySem.W.dataLe false (fun b => PyData.str (id b)) a b
  rw [PySem.W.dataLe_str]
  rfl
theorem wg_sortT {ks : List Str} {δ : List Sl} {Q : Sl → List Sl → Prop} (h : ∀ k ∈ ks, PyData.strOk k = true) (hz : ks.length ≤ 1000000) : wG (gSortG [.list (ks.map .str)]) δ Q = Q (.ow (.list ((srtS ks).map .str))) δ := by
  rw [wg_sortG, srtG_strs]
  exact propext ⟨fun q => q.2, fun q => ⟨strs_sortOk h hz, q⟩⟩
theorem srtS_filter {p : Str → Bool} (l : List Str) : srtS (l.filter p) = (srtS l).filter p :=
  (srtS_eq' ((srtS_perm l).filter p) ((srtS_pw l).filter _)).symm
where srtS_eq' {l m : List Str} (h : m.Perm l) (s : m.Pairwise fun a b => leS a b = true) : m = srtS l :=
  List.Perm.eq_of_pairwise (le := fun a b => leS a b = true) (fun a b _ _ h1 h2 => leS_anti h1 h2) s (srtS_pw l) (h.trans (srtS_perm l).symm)
/-! ### what merging keeps of a tally -/
structure Tl.Fit (r : Int) (T : Tl) : Prop where
  room : T.room = r
  r1 : 1 ≤ r
  r2 : r ≤ 20
  rise : Rise T.cts
  wd : ∀ p ∈ T.cts, wordy p.1 = true
  c1 : ∀ p ∈ T.cts, 1 ≤ p.2
  len : (T.cts.length : Int) ≤ r
  l0 : 0 ≤ T.lt
  lo : (r + 1) * T.lt ≤ T.tot - sumC T.cts
  hi : T.tot - sumC T.cts ≤ 2 * r * T.lt
theorem sumC_nil : sumC [] = 0 := rfl
theorem sumC_cons (p : Str × Int) (l : List (Str × Int)) : sumC (p :: l) = p.2 + sumC l := by simp [sumC]
theorem sumC_nonneg {l : List (Str × Int)} (h : ∀ p ∈ l, 0 ≤ p.2) : 0 ≤ sumC l := by
  induction l with
  | nil => simp [sumC]
  | cons p l ih => rw [sumC_cons]; have := h p (by simp); have := ih fun q m => h q (by simp [m]); omega
theorem sumC_mem {l : List (Str × Int)} (h : ∀ p ∈ l, 0 ≤ p.2) {p : Str × Int} (m : p ∈ l) : p.2 ≤ sumC l := by
  induction l with
  | nil => cases m
  | cons q l ih =>
    rw [sumC_cons]
    have h1 := h q (by simp)
    have h2 := sumC_nonneg fun q m => h q (List.mem_cons_of_mem _ m)
    rcases List.mem_cons.mp m with rfl | m
    · omega
    · have := ih (fun q m => h q (by simp [m])) m; omega
theorem over_same : ∀ {l : List (Str × Int)} {k : Str} {v : Int}, k ∉ l.map (·.1) → (l.map fun q => if q.1 = k then (q.1, v) else q) = l
  | [], _, _, _ => rfl
  | p :: l, k, v, h => by
    rw [List.map_cons, List.mem_cons, not_or] at h
    rw [List.map_cons, over_same h.2, if_neg (Ne.symm h.1)]
theorem sumC_put : ∀ {l : List (Str × Int)} {k : Str} {v : Int}, (l.map (·.1)).Nodup → sumC (put l k v) = sumC l - (val l k).getD 0 + v
  | [], k, v, _ => by simp [put, sumC, val]
  | p :: l, k, v, nd => by
    rw [List.map_cons, List.nodup_cons] at nd
    unfold put
    by_cases h : p.1 = k
    · rw [if_pos h, sumC_cons, sumC_cons, val_pos h]
      rw [over_same (by rw [← h]; exact nd.1)]
      simp only [Option.getD_some]
      omega
    · rw [if_neg h, sumC_cons, sumC_cons, val_neg h, sumC_put nd.2]
      omega
theorem sumC_sums : ∀ {B A : List (Str × Int)}, (A.map (·.1)).Nodup → sumC (sums A B) = sumC A + sumC B
  | [], A, _ => by show sumC A = sumC A + sumC []; rw [sumC_nil]; omega
  | p :: B, A, nd => by
    show sumC (sums (addM A p) B) = _
    have nd' : ((addM A p).map (·.1)).Nodup := put_nd nd _ _
    rw [sumC_sums nd']
    unfold addM
    rw [sumC_put nd, sumC_cons]
    omega
theorem sums_c1 {A B : List (Str × Int)} (ha : Rise A) (hb : Rise B) (h1 : ∀ p ∈ A, 1 ≤ p.2) (h2 : ∀ p ∈ B, 1 ≤ p.2) : ∀ p ∈ sums A B, 1 ≤ p.2 := fun p m => by
  have e := val_mem (sums_nd ha.nd) m
  rw [val_sums hb.nd] at e
  cases h : val B p.1 with
  | none => rw [h] at e; exact h1 _ (mem_val e)
  | some v =>
    rw [h] at e
    have e2 : (val A p.1).getD 0 + v = p.2 := by simpa using e
    have h3 := h2 _ (mem_val h)
    simp only at h3
    cases h4 : val A p.1 with
    | none => rw [h4] at e2; simp at e2; omega
    | some u => rw [h4] at e2; have := h1 _ (mem_val h4); simp at e2 this; omega
/-- what is let go -/
def lost (s : List (Str × Int)) (c : Int) : Int := ((vals s).map fun v => min v c).sum
theorem lost_perm {s t : List Int} (h : s.Perm t) (c : Int) : (s.map fun v => min v c).sum = (t.map fun v => min v c).sum := sum_perm (h.map _)
theorem above_sum (s : List (Str × Int)) (c : Int) (nd : (s.map (·.1)).Nodup) : sumC (above s c) = sumC s - lost s c := by
  have key : ∀ l : List (Str × Int), sumC ((l.filter fun p => decide (c < p.2)).map fun p => (p.1, p.2 - c)) = sumC l - lost l c := by
    intro l
    induction l with
    | nil => simp [sumC, lost, vals]
    | cons p l ih =>
      have e1 : lost (p :: l) c = min p.2 c + lost l c := by simp [lost, vals]
      by_cases h : c < p.2
      · rw [List.filter_cons_of_pos (by simpa using h), List.map_cons, sumC_cons, ih, sumC_cons, e1]
        simp only
        omega
      · rw [List.filter_cons_of_neg (by simpa using h), ih, sumC_cons, e1]
        omega
  have e := key (srtD s)
  have p := srtD_perm nd
  unfold above
  rw [e, sumC_perm p]
  have e2 : lost (srtD s) c = lost s c := lost_perm (s := vals (srtD s)) (t := vals s) (p.map _) c
  rw [e2]
theorem min_sum_le {c : Int} : ∀ (l : List Int), (l.map fun v => min v c).sum ≤ l.length * c
  | [] => by simp
  | x :: l => by
    have := min_sum_le (c := c) l
    rw [List.map_cons, List.sum_cons, List.length_cons]
    have e : ((l.length + 1 : Nat) : Int) * c = l.length * c + c := by rw [Int.natCast_add, Int.add_mul]; simp
    omega
theorem min_sum_ge {c : Int} : ∀ (l : List Int), (∀ v ∈ l, c ≤ v) → l.length * c ≤ (l.map fun v => min v c).sum
  | [], _ => by simp
  | x :: l, h => by
    have := min_sum_ge (c := c) l fun v m => h v (by simp [m])
    have := h x (by simp)
    rw [List.map_cons, List.sum_cons, List.length_cons]
    have e : ((l.length + 1 : Nat) : Int) * c = l.length * c + c := by rw [Int.natCast_add, Int.add_mul]; simp
    omega
theorem min_sum_nn {c : Int} (hc : 0 ≤ c) : ∀ (l : List Int), (∀ v ∈ l, 0 ≤ v) → 0 ≤ (l.map fun v => min v c).sum
  | [], _ => by simp
  | x :: l, h => by
    have := min_sum_nn hc l fun v m => h v (by simp [m])
    have := h x (by simp)
    rw [List.map_cons, List.sum_cons]
    omega
theorem cutO_mem {r : Int} {s : List (Str × Int)} (h0 : 0 ≤ r) (h : r < s.length) : cutO r s ∈ vals s := by
  have hl : (srtI (vals s)).length = s.length := by rw [(srtI_perm _).length_eq]; simp [vals]
  unfold cutO
  rw [if_neg (by omega), List.getD_eq_getElem?_getD, List.getElem?_eq_getElem (by omega)]
  exact (srtI_perm _).mem_iff.mp (List.getElem_mem _)
theorem cutO_nn {r : Int} {s : List (Str × Int)} (h0 : 0 ≤ r) (h1 : ∀ p ∈ s, 1 ≤ p.2) : 0 ≤ cutO r s := by
  by_cases h : (s.length : Int) ≤ r
  · unfold cutO; rw [if_pos h]; exact Int.le_refl _
  · have := cutO_mem h0 (by omega : r < s.length)
    obtain ⟨p, m, e⟩ := List.mem_map.mp this
    have := h1 p m
    rw [← e]; omega
theorem lost_hi {r : Int} {s : List (Str × Int)} : lost s (cutO r s) ≤ s.length * cutO r s := by
  have := min_sum_le (c := cutO r s) (vals s)
  unfold lost
  have e : (vals s).length = s.length := by simp [vals]
  rw [e] at this
  exact this
theorem lost_lo {r : Int} {s : List (Str × Int)} (h0 : 0 ≤ r) (h1 : ∀ p ∈ s, 1 ≤ p.2) : (r + 1) * cutO r s ≤ lost s (cutO r s) := by
  have hn := cutO_nn h0 h1
  have hv : ∀ v ∈ vals s, 0 ≤ v := fun v m => by
    obtain ⟨p, mp, rfl⟩ := List.mem_map.mp m
    have := h1 p mp; omega
  by_cases h : (s.length : Int) ≤ r
  · have e : cutO r s = 0 := if_pos h
    have := min_sum_nn hn (vals s) hv
    rw [e] at this ⊢
    unfold lost
    omega
  · have hl : (srtI (vals s)).length = s.length := by rw [(srtI_perm _).length_eq]; simp [vals]
    have e : lost s (cutO r s) = ((srtI (vals s)).map fun v => min v (cutO r s)).sum := lost_perm (srtI_perm _).symm _
    have hi : s.length - r.toNat - 1 < (srtI (vals s)).length := by omega
    have ec : cutO r s = (srtI (vals s))[s.length - r.toNat - 1] := by
      unfold cutO
      rw [if_neg h, List.getD_eq_getElem?_getD, List.getElem?_eq_getElem hi]
      rfl
    have pw := srtI_pw (vals s)
    rw [e]
    generalize hV : srtI (vals s) = V at hl hi ec pw ⊢
    have hVn : ∀ v ∈ V, 0 ≤ v := fun v m => hv v ((srtI_perm _).mem_iff.mp (hV ▸ m))
    generalize cutO r s = c at hn ec ⊢
    have sp : V = V.take (s.length - r.toNat - 1) ++ V.drop (s.length - r.toNat - 1) := (List.take_append_drop _ _).symm
    rw [sp, List.map_append, List.sum_append]
    have h2 := min_sum_nn hn (V.take (s.length - r.toNat - 1)) fun v m => hVn v (List.mem_of_mem_take m)
    have h3 := min_sum_ge (c := c) (V.drop (s.length - r.toNat - 1)) fun v m => by
      rw [ec]
      rw [List.drop_eq_getElem_cons hi] at m
      rcases List.mem_cons.mp m with rfl | m
      · exact Int.le_refl _
      · rw [sp, List.drop_eq_getElem_cons hi] at pw
        exact (List.pairwise_cons.mp (List.pairwise_append.mp pw).2.1).1 v m
    rw [List.length_drop, hl] at h3
    have e5 : ((s.length - (s.length - r.toNat - 1) : Nat) : Int) = r + 1 := by omega
    rw [e5] at h3
    omega
theorem above_len {s : List (Str × Int)} {r : Int} (nd : (s.map (·.1)).Nodup) (h0 : 0 ≤ r) : ((above s (cutO r s)).length : Int) ≤ r := by
  have hl : (srtI (vals s)).length = s.length := by rw [(srtI_perm _).length_eq]; simp [vals]
  have e1 : (above s (cutO r s)).length = ((srtI (vals s)).filter fun v => decide (cutO r s < v)).length := by
    unfold above
    rw [List.length_map]
    have p : ((srtD s).map fun p : Str × Int => p.2).Perm (srtI (vals s)) := ((srtD_perm nd).map fun p : Str × Int => p.2).trans (srtI_perm (vals s)).symm
    have := (p.filter fun v => decide (cutO r s < v)).length_eq
    rw [List.filter_map, List.length_map] at this
    exact this
  rw [e1]
  by_cases h : (s.length : Int) ≤ r
  · have := List.length_filter_le (fun v => decide (cutO r s < v)) (srtI (vals s))
    omega
  · have hi : s.length - r.toNat - 1 < (srtI (vals s)).length := by omega
    have ec : cutO r s = (srtI (vals s))[s.length - r.toNat - 1] := by
      unfold cutO
      rw [if_neg h, List.getD_eq_getElem?_getD, List.getElem?_eq_getElem hi]
      rfl
    have pw := srtI_pw (vals s)
    generalize srtI (vals s) = V at hl hi ec pw ⊢
    generalize cutO r s = c at ec ⊢
    have sp : V = V.take (s.length - r.toNat) ++ V.drop (s.length - r.toNat) := (List.take_append_drop _ _).symm
    have hz : (V.take (s.length - r.toNat)).filter (fun v => decide (c < v)) = [] := by
      rw [List.filter_eq_nil_iff]
      intro v m
      obtain ⟨j, hj, e⟩ := List.mem_iff_getElem.mp m
      rw [List.length_take] at hj
      rw [List.getElem_take] at e
      have : v ≤ c := by
        rw [← e, ec]
        rcases Nat.lt_or_ge j (s.length - r.toNat - 1) with q | q
        · exact List.pairwise_iff_getElem.mp pw _ _ _ _ q
        · have : j = s.length - r.toNat - 1 := by omega
          subst this
          exact Int.le_refl _
      simp
      omega
    rw [sp, List.filter_append, hz, List.nil_append]
    have := List.length_filter_le (fun v => decide (c < v)) (V.drop (s.length - r.toNat))
    rw [List.length_drop] at this
    omega
theorem above_rise {s : List (Str × Int)} {c : Int} (nd : (s.map (·.1)).Nodup) : Rise (above s c) := by
  unfold Rise above
  rw [List.map_map]
  have e : ((fun x : Str × Int => x.1) ∘ fun p : Str × Int => (p.1, p.2 - c)) = fun p => p.1 := rfl
  rw [e]
  have := srtD_rise nd
  unfold Rise at this
  exact List.pairwise_map.mpr ((List.pairwise_map.mp this).filter _)
theorem Tl.Fit.mrg {r : Int} {T U : Tl} (h : Tl.Fit r T) (k : Tl.Fit r U) : Tl.Fit r (T.mrg U) := by
  have nd := sums_nd (B := U.cts) h.rise.nd
  have c1 := sums_c1 h.rise k.rise h.c1 k.c1
  have r1 := h.r1
  have r0 : 0 ≤ r := by omega
  have hl := sums_len (A := T.cts) (B := U.cts)
  have c0 := cutO_nn (r := r) r0 c1
  have lo := lost_lo (r := r) r0 c1
  have hi := lost_hi (r := r) (s := sums T.cts U.cts)
  have sm := sumC_sums (B := U.cts) h.rise.nd
  have ab := above_sum (sums T.cts U.cts) (cutO r (sums T.cts U.cts)) nd
  have l1 := h.lo; have l2 := k.lo; have h1 := h.hi; have h2 := k.hi; have n1 := h.len; have n2 := k.len
  have z1 := h.l0; have z2 := k.l0
  have hlen : ((sums T.cts U.cts).length : Int) * cutO r (sums T.cts U.cts) ≤ 2 * r * cutO r (sums T.cts U.cts) := Int.mul_le_mul_of_nonneg_right (by omega) c0
  have e1 : (T.mrg U).cts = above (sums T.cts U.cts) (cutO r (sums T.cts U.cts)) := by unfold Tl.mrg; rw [h.room]
  have e2 : (T.mrg U).lt = T.lt + U.lt + cutO r (sums T.cts U.cts) := by unfold Tl.mrg; rw [h.room]
  have e3 : (T.mrg U).tot = T.tot + U.tot := rfl
  have f1 : (r + 1) * (T.lt + U.lt + cutO r (sums T.cts U.cts)) = (r + 1) * T.lt + (r + 1) * U.lt + (r + 1) * cutO r (sums T.cts U.cts) := by rw [Int.mul_add, Int.mul_add]
  have f2 : 2 * r * (T.lt + U.lt + cutO r (sums T.cts U.cts)) = 2 * r * T.lt + 2 * r * U.lt + 2 * r * cutO r (sums T.cts U.cts) := by rw [Int.mul_add, Int.mul_add]
  exact {
    room := h.room
    r1 := h.r1
    r2 := h.r2
    rise := by rw [e1]; exact above_rise nd
    wd := fun p m => by
      rw [e1] at m
      rcases sums_mem k.rise.nd (above_mem nd m) with q | q
      · obtain ⟨z, mz, e⟩ := List.mem_map.mp q
        rw [← e]; exact h.wd z mz
      · obtain ⟨z, mz, e⟩ := List.mem_map.mp q
        rw [← e]; exact k.wd z mz
    c1 := fun p m => by
      rw [e1] at m
      unfold above at m
      obtain ⟨q, mq, rfl⟩ := List.mem_map.mp m
      have := (List.mem_filter.mp mq).2
      simp at this
      show 1 ≤ q.2 - _
      omega
    len := by rw [e1]; exact above_len nd r0
    l0 := by rw [e2]; omega
    lo := by rw [e1, e2, e3, ab, sm, f1]; omega
    hi := by rw [e1, e2, e3, ab, sm, f2]; omega }
theorem Tl.Fit.none {r : Int} (h : 1 ≤ r ∧ r ≤ 20) : Tl.Fit r (Tl.none r) := ⟨rfl, h.1, h.2, List.Pairwise.nil, (fun p m => nomatch m), (fun p m => nomatch m), by show (0 : Int) ≤ r; omega, Int.le_refl _, by show (r + 1) * 0 ≤ 0 - 0; omega, by show (0 : Int) - 0 ≤ 2 * r * 0; omega⟩
/-- the tally of one thing -/
def Tl.one (r : Int) (t : Th) : Tl := ⟨r, [(t.mark, t.many)], 0, t.many⟩
theorem Tl.Fit.one {r : Int} {t : Th} (h : 1 ≤ r ∧ r ≤ 20) (hw : wordy t.mark = true) (hm : 1 ≤ t.many) : Tl.Fit r (Tl.one r t) := by
  refine ⟨rfl, h.1, h.2, List.pairwise_singleton _ _, fun p m => ?_, fun p m => ?_, by show (1 : Int) ≤ r; omega, Int.le_refl _, ?_, ?_⟩
  · have : p = (t.mark, t.many) := by simpa [Tl.one] using m
    rw [this]; exact hw
  · have : p = (t.mark, t.many) := by simpa [Tl.one] using m
    rw [this]; exact hm
  · show (r + 1) * 0 ≤ t.many - sumC [(t.mark, t.many)]
    rw [sumC_cons, sumC_nil]; simp
  · show t.many - sumC [(t.mark, t.many)] ≤ 2 * r * 0
    rw [sumC_cons, sumC_nil]; simp
theorem Tl.Fit.bds {r : Int} {T : Tl} (h : Tl.Fit r T) : 0 ≤ sumC T.cts ∧ sumC T.cts ≤ T.tot ∧ T.lt ≤ T.tot ∧ 0 ≤ T.tot := by
  have h1 := sumC_nonneg (l := T.cts) fun p m => by have := h.c1 p m; omega
  have h2 := h.lo
  have l0 := h.l0
  have r1 := h.r1
  have h3 : 1 * T.lt ≤ (r + 1) * T.lt := Int.mul_le_mul_of_nonneg_right (by omega) l0
  omega
theorem Tl.Fit.ok {r : Int} {T : Tl} (h : Tl.Fit r T) (hB : T.tot < 100000000000000000000) : Tl.Ok T := by
  obtain ⟨b1, b2, b3, b4⟩ := h.bds
  have e := h.room
  refine ⟨by rw [e]; exact h.r1, by rw [e]; exact h.r2, h.rise, h.wd, h.c1, by rw [e]; exact h.len, h.l0, by rw [e]; exact h.lo, by rw [e]; exact h.hi, by omega, fun p m => ?_⟩
  have := sumC_mem (fun p m => by have := h.c1 p m; omega) m
  omega
end DL

set_option Elab.async false
set_option linter.all false
set_option maxRecDepth 100000
set_option maxHeartbeats 1000000
namespace DL
open PySem PySem.Spec PyProof.Rows L2
/-! ### trees of streams -/
inductive Tr where
  | leaf (l : List Th)
  | node (a b : Tr)
def Tr.d : Tr → PyData
  | .leaf l => St l
  | .node a b => .tuple [.str "merged", a.d, b.d]
/-- the streams -/
def Tr.strs : Tr → List (List Th)
  | .leaf l => [l]
  | .node a b => a.strs ++ b.strs
/-- the stream -/
def Tr.strm (t : Tr) : List Th := t.strs.flatten
def Tr.parts : Tr → Nat
  | .leaf _ => 1
  | .node a b => a.parts + b.parts
def Tr.deep : Tr → Nat
  | .leaf _ => 0
  | .node a b => max a.deep b.deep + 1
/-- every stream is so -/
def Tr.All (p : List Th → Prop) : Tr → Prop
  | .leaf l => p l
  | .node a b => a.All p ∧ b.All p
theorem Tr.All.mono {p q : List Th → Prop} (h : ∀ l, p l → q l) : ∀ {t : Tr}, t.All p → t.All q
  | .leaf _, k => h _ k
  | .node _ _, k => ⟨Tr.All.mono h k.1, Tr.All.mono h k.2⟩
theorem Tr.parts_pos : ∀ t : Tr, 1 ≤ t.parts
  | .leaf _ => Nat.le_refl _
  | .node a b => by have := a.parts_pos; have := b.parts_pos; show 1 ≤ a.parts + b.parts; omega
theorem Tr.deep_lt : ∀ t : Tr, t.deep < t.parts
  | .leaf _ => Nat.zero_lt_one
  | .node a b => by
    have h1 := a.deep_lt; have h2 := b.deep_lt
    show max a.deep b.deep + 1 < a.parts + b.parts
    have := a.parts_pos; have := b.parts_pos
    omega
theorem Tr.sh {t : Tr} : ∀ (_ : t.All Oks), Sh (t.deep + 2) t.d := by
  induction t with
  | leaf l => intro h; exact St.sh h
  | node a b ha hb =>
    intro h
    exact .tup (allc (.str (by decide +kernel)) (allc ((ha h.1).mono (by show a.deep + 2 ≤ max a.deep b.deep + 2; omega)) (all1 ((hb h.2).mono (by show b.deep + 2 ≤ max a.deep b.deep + 2; omega)))))
theorem Drn.oks {b : Int} {l : List Th} (h : ∀ t ∈ l, Drn b t) : Oks l := fun t m => (h t m).ok
/-- what a tree of things as drawn is: so many things a stream -/
abbrev Grw (b n : Int) (t : Tr) : Prop := t.All fun l => (∀ x ∈ l, Drn b x) ∧ (l.length : Int) ≤ n
/-! ### the tally of a tree -/
def Tl.adds (T : Tl) (l : List Th) : Tl := l.foldl (fun T t => T.mrg (Tl.one T.room t)) T
def Tr.tl (r : Int) : Tr → Tl
  | .leaf l => (Tl.none r).adds l
  | .node a b => (a.tl r).mrg (b.tl r)
theorem Tl.adds_nil (T : Tl) : T.adds [] = T := rfl
theorem Tl.adds_snoc (T : Tl) (l : List Th) (t : Th) : T.adds (l ++ [t]) = (T.adds l).mrg (Tl.one (T.adds l).room t) := by unfold Tl.adds; rw [List.foldl_append]; rfl
theorem Tl.Fit.adds {r : Int} : ∀ {l : List Th} {T : Tl}, Tl.Fit r T → (∀ t ∈ l, wordy t.mark = true ∧ 1 ≤ t.many) → Tl.Fit r (T.adds l)
  | [], _, h, _ => h
  | t :: l, T, h, k => Tl.Fit.adds (l := l) (T := T.mrg (Tl.one T.room t)) (h.mrg (by rw [h.room]; exact .one ⟨h.r1, h.r2⟩ (k t (by simp)).1 (k t (by simp)).2)) fun u m => k u (by simp [m])
theorem Tl.adds_tot : ∀ (l : List Th) (T : Tl), (T.adds l).tot = T.tot + things l
  | [], T => by show T.tot = T.tot + 0; omega
  | t :: l, T => by
    show (Tl.adds (T.mrg (Tl.one T.room t)) l).tot = _
    rw [Tl.adds_tot l]
    show T.tot + t.many + things l = T.tot + things (t :: l)
    simp [things]
    omega
theorem Tl.adds_room : ∀ (l : List Th) (T : Tl), (T.adds l).room = T.room
  | [], T => rfl
  | t :: l, T => Tl.adds_room l (T.mrg (Tl.one T.room t))
def Wd (l : List Th) : Prop := ∀ t ∈ l, wordy t.mark = true ∧ 1 ≤ t.many
theorem Tr.fit {r : Int} (hr : 1 ≤ r ∧ r ≤ 20) : ∀ {t : Tr}, t.All Wd → Tl.Fit r (t.tl r)
  | .leaf l, h => Tl.Fit.adds (.none hr) h
  | .node a b, h => (Tr.fit hr h.1).mrg (Tr.fit hr h.2)
theorem things_app (l m : List Th) : things (l ++ m) = things l + things m := by simp [things]
theorem Tr.tot (r : Int) : ∀ t : Tr, (t.tl r).tot = things t.strm
  | .leaf l => by
    show (Tl.adds (Tl.none r) l).tot = _
    rw [Tl.adds_tot]
    show 0 + things l = things [l].flatten
    simp
  | .node a b => by
    show (a.tl r).tot + (b.tl r).tot = things (a.strs ++ b.strs).flatten
    rw [Tr.tot r a, Tr.tot r b, List.flatten_append, things_app]
    rfl
theorem things_le {B : Int} : ∀ {l : List Th}, (∀ t ∈ l, 0 ≤ t.many ∧ t.many ≤ B) → 0 ≤ things l ∧ things l ≤ l.length * B
  | [], _ => by simp [things]
  | t :: l, h => by
    have h1 := h t (by simp)
    have h2 := things_le (B := B) fun u m => h u (List.mem_cons_of_mem _ m)
    have e : ((l.length + 1 : Nat) : Int) * B = l.length * B + B := by rw [Int.natCast_add, Int.add_mul]; simp
    have e2 : things (t :: l) = t.many + things l := by simp [things]
    rw [e2, List.length_cons, e]
    omega
theorem Grw.tot {b n : Int} (hn : 0 ≤ n) : ∀ {t : Tr}, Grw b n t → 0 ≤ things t.strm ∧ things t.strm ≤ t.parts * (n * 1000000001)
  | .leaf l, h => by
    have h1 := things_le (B := 1000000001) (l := l) fun x m => by have := (h.1 x m).ok.m0; have := (h.1 x m).many; omega
    have e : (Tr.leaf l).strm = l := by show [l].flatten = l; simp
    have h2 : (l.length : Int) * 1000000001 ≤ n * 1000000001 := Int.mul_le_mul_of_nonneg_right h.2 (by omega)
    rw [e]
    show 0 ≤ things l ∧ things l ≤ ((1 : Nat) : Int) * (n * 1000000001)
    omega
  | .node p q, h => by
    have h1 := Grw.tot hn (t := p) h.1
    have h2 := Grw.tot hn (t := q) h.2
    have e : (Tr.node p q).strm = p.strm ++ q.strm := by show (p.strs ++ q.strs).flatten = _; rw [List.flatten_append]; rfl
    have e2 : ((p.parts + q.parts : Nat) : Int) * (n * 1000000001) = p.parts * (n * 1000000001) + q.parts * (n * 1000000001) := by rw [Int.natCast_add, Int.add_mul]
    rw [e, things_app]
    show 0 ≤ _ ∧ _ ≤ ((p.parts + q.parts : Nat) : Int) * (n * 1000000001)
    rw [e2]
    omega
theorem Grw.wd {b n : Int} {t : Tr} (h : Grw b n t) : t.All Wd := Tr.All.mono (fun l k t m => ⟨(k.1 t m).ok.wd, (k.1 t m).ok.m0⟩) h
theorem Grw.oks {b n : Int} {t : Tr} (h : Grw b n t) : t.All Oks := Tr.All.mono (fun l k t m => (k.1 t m).ok) h
section
variable {X : String}
@[simp] theorem tyB_St {l : List Th} : tyB (St l) X = kitB "list" X := rfl
@[simp] theorem tyB_node {a b : Tr} : tyB (Tr.node a b).d X = kitB "tuple" X := rfl
@[simp] theorem tyB_leaf {l : List Th} : tyB (Tr.leaf l).d X = kitB "list" X := rfl
end
end DL

set_option Elab.async false
set_option linter.all false
set_option maxRecDepth 100000
set_option maxHeartbeats 1000000
namespace DL
open PySem PySem.Spec PyProof.Rows L2
/-! ### bunches: what merging lets go -/
abbrev Bn := List Str × Int
def Bn.d (b : Bn) : PyData := .tuple [.tuple (b.1.map .str), .int b.2]
/-- a paper -/
def Pp (l : List Bn) : PyData := .list (l.map Bn.d)
def levs (s : List (Str × Int)) (c : Int) : List Int := setI ((vals s).map fun v => if c < v then c else v)
def atL (s : List (Str × Int)) (L : Int) : List Str := (srtS (s.map (·.1))).filter fun k => decide (L ≤ (val s k).getD 0)
def bnStep (s : List (Str × Int)) (st : List Bn × Int) (L : Int) : List Bn × Int := if 0 < L then (st.1 ++ [(atL s L, L - st.2)], L) else st
def bunchO (s : List (Str × Int)) (c : Int) : List Bn := ((levs s c).foldl (bnStep s) ([], 0)).1
def Tl.bns (T U : Tl) : List Bn := bunchO (sums T.cts U.cts) (cutO T.room (sums T.cts U.cts))
theorem setI_congr {l m : List Int} (h : ∀ k, k ∈ l ↔ k ∈ m) : setI l = setI m := setI_eq (setI_lt l) fun k => setI_mem.trans (h k)
theorem bunchO_congr {l m : List (Str × Int)} {c : Int} (hl : (l.map (·.1)).Nodup) (hm : (m.map (·.1)).Nodup) (h : ∀ k, val l k = val m k) : bunchO l c = bunchO m c := by
  have e1 : levs l c = levs m c := setI_congr fun k => ((vals_perm hl hm h).map _).mem_iff
  have e2 : atL l = atL m := by
    funext L
    unfold atL
    rw [srtS_congr (keys_perm hl hm h)]
    refine List.filter_congr fun k _ => ?_
    rw [h]
  have e3 : bnStep l = bnStep m := by
    funext st L
    unfold bnStep
    rw [e2]
  unfold bunchO
  rw [e1, e3]
theorem Tl.bns_comm {T U : Tl} (hr : T.room = U.room) (ht : Rise T.cts) (hu : Rise U.cts) : T.bns U = U.bns T := by
  have h := sums_comm ht.nd hu.nd
  unfold Tl.bns
  rw [cutO_congr (r := T.room) (sums_nd ht.nd) (sums_nd hu.nd) h, bunchO_congr (sums_nd ht.nd) (sums_nd hu.nd) h, hr]
theorem bn_fold_nil {s : List (Str × Int)} : ∀ {l : List Int} {st : List Bn × Int}, (∀ L ∈ l, L ≤ 0) → l.foldl (bnStep s) st = st
  | [], _, _ => rfl
  | L :: l, st, h => by
    show l.foldl (bnStep s) (bnStep s st L) = st
    have h1 := h L (by simp)
    have e : bnStep s st L = st := if_neg (by omega)
    rw [e]
    exact bn_fold_nil fun L m => h L (by simp [m])
theorem bunchO_zero {s : List (Str × Int)} : bunchO s 0 = [] := by
  unfold bunchO
  rw [bn_fold_nil]
  intro L hL
  have := setI_mem.mp hL
  obtain ⟨v, _, rfl⟩ := List.mem_map.mp this
  split <;> omega
/-- nothing merged in lets nothing go -/
theorem Tl.bns_none {r : Int} {T : Tl} (h : Tl.Fit r T) (r' : Int) : T.bns (Tl.none r') = [] := by
  have e : sums T.cts (Tl.none r').cts = T.cts := rfl
  have c : cutO T.room T.cts = 0 := if_pos (by rw [h.room]; exact h.len)
  unfold Tl.bns
  rw [e, c, bunchO_zero]
theorem atL_sub {s : List (Str × Int)} {L : Int} : ∀ k ∈ atL s L, k ∈ s.map (·.1) := fun k m => (srtS_perm _).mem_iff.mp (List.mem_filter.mp m).1
theorem bn_fold_wd {s : List (Str × Int)} {P : Str → Prop} (hs : ∀ k ∈ s.map (·.1), P k) : ∀ {l : List Int} {st : List Bn × Int}, (∀ b ∈ st.1, ∀ k ∈ b.1, P k) → ∀ b ∈ (l.foldl (bnStep s) st).1, ∀ k ∈ b.1, P k
  | [], st, h => h
  | L :: l, st, h => by
    refine bn_fold_wd hs (l := l) (st := bnStep s st L) ?_
    unfold bnStep
    split
    · intro b mb k mk
      rcases List.mem_append.mp mb with m | m
      · exact h b m k mk
      · rw [List.mem_singleton.mp m] at mk
        exact hs k (atL_sub k mk)
    · exact h
theorem bn_fold_len {s : List (Str × Int)} : ∀ {l : List Int} {st : List Bn × Int}, (l.foldl (bnStep s) st).1.length ≤ st.1.length + l.length
  | [], st => Nat.le_refl _
  | L :: l, st => by
    have h := bn_fold_len (s := s) (l := l) (st := bnStep s st L)
    have h2 : (bnStep s st L).1.length ≤ st.1.length + 1 := by
      unfold bnStep
      split <;> simp
    show (l.foldl (bnStep s) (bnStep s st L)).1.length ≤ st.1.length + (l.length + 1)
    omega
theorem setI_len (l : List Int) : (setI l).length ≤ l.length := by
  unfold setI
  rw [(srtI_perm _).length_eq]
  exact eraseDups_len _ _ (Nat.le_refl _)
where eraseDups_len : ∀ (n : Nat) (l : List Int), l.length ≤ n → l.eraseDups.length ≤ l.length
  | _, [], _ => by simp
  | 0, _ :: _, h => by simp at h
  | n + 1, x :: l, h => by
    rw [List.eraseDups_cons]
    have h1 : (l.filter fun b => !b == x).length ≤ l.length := List.length_filter_le _ _
    have := eraseDups_len n (l.filter fun b => !b == x) (by simp at h; omega)
    simp only [List.length_cons]
    omega
theorem levs_len (s : List (Str × Int)) (c : Int) : (levs s c).length ≤ s.length := by
  have := setI_len ((vals s).map fun v => if c < v then c else v)
  unfold levs
  simp [vals] at this ⊢
  exact this
theorem Tl.bns_len (T U : Tl) : (T.bns U).length ≤ T.cts.length + U.cts.length := by
  have h1 := bn_fold_len (s := sums T.cts U.cts) (l := levs (sums T.cts U.cts) (cutO T.room (sums T.cts U.cts))) (st := ([], 0))
  have h2 := levs_len (sums T.cts U.cts) (cutO T.room (sums T.cts U.cts))
  have h3 := sums_len (A := T.cts) (B := U.cts)
  unfold Tl.bns bunchO
  simp at h1
  omega
theorem Tl.bns_wd {T U : Tl} {P : Str → Prop} (hu : Rise U.cts) (h1 : ∀ p ∈ T.cts, P p.1) (h2 : ∀ p ∈ U.cts, P p.1) : ∀ b ∈ T.bns U, ∀ k ∈ b.1, P k := by
  refine bn_fold_wd (fun k mk => ?_) (fun b m => nomatch m)
  rcases sums_mem hu.nd mk with q | q
  · obtain ⟨z, mz, e⟩ := List.mem_map.mp q
    rw [← e]; exact h1 z mz
  · obtain ⟨z, mz, e⟩ := List.mem_map.mp q
    rw [← e]; exact h2 z mz
theorem Pp_sh {l : List Bn} (h : ∀ b ∈ l, ∀ k ∈ b.1, PyData.strOk k = true) : Sh 3 (Pp l) :=
  Sh.listm fun b m => .tup (allc (Sh.tupm fun k mk => .str (h b m k mk)) (all1 .int))
/-- the paper of a stream, of a tree -/
def Tl.addsP (T : Tl) (l : List Th) : Tl × List Bn := l.foldl (fun st t => (st.1.mrg (Tl.one st.1.room t), st.2 ++ st.1.bns (Tl.one st.1.room t))) (T, [])
def Tr.paper (r : Int) : Tr → List Bn
  | .leaf l => ((Tl.none r).addsP l).2
  | .node a b => a.paper r ++ b.paper r ++ (a.tl r).bns (b.tl r)
theorem addsP_snoc (T : Tl) (l : List Th) (t : Th) : T.addsP (l ++ [t]) = ((T.addsP l).1.mrg (Tl.one (T.addsP l).1.room t), (T.addsP l).2 ++ (T.addsP l).1.bns (Tl.one (T.addsP l).1.room t)) := by
  unfold Tl.addsP; rw [List.foldl_append]; rfl
theorem addsP_fst (T : Tl) (l : List Th) : (T.addsP l).1 = T.adds l := by
  have : ∀ (l : List Th) (T : Tl) (p : List Bn), (l.foldl (fun st t => (st.1.mrg (Tl.one st.1.room t), st.2 ++ st.1.bns (Tl.one st.1.room t))) (T, p)).1 = T.adds l := by
    intro l
    induction l with
    | nil => intro T p; rfl
    | cons t l ih => intro T p; exact ih (T.mrg (Tl.one T.room t)) _
  exact this l T []
end DL

set_option Elab.async false
set_option linter.all false
set_option maxRecDepth 100000
set_option maxHeartbeats 4000000
namespace DL
open PySem PySem.Spec PyProof.Rows L2
/-! ### sum(d.values()) of ints -/
theorem sumvals_run {prog : Program} {w : World} {A : Around} {E : Value → Shared → Prop} {s : Shared} {T : String} {r d : Addr} {n : Nat} {P : Nat → Value → Prop} {OK : Heap → Prop} {Q : Value → Shared → Prop}
    (K : PySem.W.KdlSrc prog w T r d n P OK) (hh : A.handled = none) (hok : OK s.heap) (val : Nat → Int) (hval : ∀ (i : Nat) (v : Value), P i v → ∃ t : Tok, v = Value.int (val i) t)
    (h : ∀ (h' : Heap) (tk : Nat) (t' : Tok), (∀ b o, s.heap.get? b = some o → h'.get? b = some o) → Q (.int (preSum val n) t') { s with heap := h', toks := tk }) :
    wpAny (model prog w) A (call (.builtin "sum") [.ref r]) Q E s := by
  obtain ⟨oI, St, hit, W, st⟩ := K.iter A.in1 s hh hok
  have hthere := K.there _ hok
  refine PySem.call_sum_walkAnyS (hit _ _ ⟨s.heap.objs.size, _, _, _, n, P, _, val, rfl, W.toS, st, ?_, hval, ?_⟩)
  · intro b hb
    show b < (s.heap.push oI).objs.size
    rw [size_push']
    simp only [List.mem_cons, List.not_mem_nil, or_false] at hb
    rcases hb with rfl | rfl
    · exact Nat.lt_succ_self _
    · exact Nat.lt_succ_of_lt hthere.2
  · intro s' t' hm
    rw [Moved.eq_with hm]
    refine h s'.heap s'.toks t' fun b o e => hm.heap b o (fun hI => ?_) (Heap.get?_push_of_some _ e)
    simp only [List.mem_cons, List.not_mem_nil, or_false] at hI
    exact absurd (Heap.lt_size e) (by rw [hI]; exact Nat.lt_irrefl _)
theorem preSum_ext {f g : Nat → Int} : ∀ n, (∀ i, i < n → f i = g i) → preSum f n = preSum g n
  | 0, _ => rfl
  | n + 1, h => by
    show preSum f n + f n = preSum g n + g n
    rw [preSum_ext n fun i hi => h i (by omega), h n (by omega)]
theorem preSum_list : ∀ (is : List Int) (val : Nat → Int), (∀ i x, is[i]? = some x → val i = x) → preSum val is.length = is.sum
  | [], _, _ => rfl
  | x :: is, val, h => by
    have e0 : val 0 = x := h 0 x rfl
    have ih := preSum_list is (fun i => val (i + 1)) fun i y e => h (i + 1) y (by simpa using e)
    rw [List.length_cons, PySem.W.kdu_shift, ih, e0, List.sum_cons]
section
variable {X : Cx} {o : Expr} {p pos apos mpos : Pos} {td : TE}
def tSumVals (td : TE) : TE := fun σ H Q => td σ H fun x H1 => ∃ (a : Addr) (kvs : List (Key × V)) (is : List Int), x = V.ref a ∧ Rd H1 a (.dK kvs) ∧ kvs.map (·.2) = is.map V.int ∧ Q (.int is.sum) H1
theorem pe_sumVals (calm : X.calm = true) (gl : Gl X "sum") (nm : X.mg "sum" = none) (hd : PE X o td) (hb : attributeBase o "values" X.env (eval o X.env) = eval o X.env := by rfl) (hline : (apos.endLine == mpos.line) = true := by rfl)
    (hse : starEach [Expr.Call (.Attribute o "values" apos) [] [] mpos] X.env = [(false, eval (Expr.Call (.Attribute o "values" apos) [] [] mpos) X.env)] := by rfl) :
    PE X (.Call (.Name "sum" p) [.Call (.Attribute o "values" apos) [] [] mpos] [] pos) (tSumVals td) := by
  refine ⟨fun pins s σ H Q I h => ?_⟩
  refine wpAny_Call_Name_kw (ld_blt I gl nm (u := .builtin "sum") (by first | rfl | decide +kernel) ?_ (by first | decide +kernel | decide) (by first | decide +kernel | decide))
  rw [hse]
  refine PySem.callWith_builtin1 (wpAny_Call_method0_late hb hline (thn (hd.run pins s σ H _ I h) fun v t1 ⟨x, G, J, rx, a, kvs, is, ex, ha, hv, fin⟩ => ?_))
  subst ex
  obtain rfl : v = Value.ref a := rx
  obtain ⟨z0, hsys, vs, rel, dof⟩ := dk_rd J.hok ha
  obtain ⟨ep, dat⟩ := dof.dictAt
  have dat2 := dat
  obtain ⟨ob, es, ho, exd, hdat, hko, hpr, hnd⟩ := dat2
  refine ⟨"dict", "dict.values", F.plainAttrs_dict, F.slot_dict_values, F.type_dict_values, ⟨ob, ho, exd.1⟩, fun b e => by cases e; exact ⟨ob, ho, exd.2.1⟩, Calls.callWith_builtin rfl (PySem.evalArgs_none ?_)⟩
  refine call_meetsIn F.slot_dict_values ⟨ob, ho, exd.1⟩ F.entry_dict_values (F.args_dict_values_1 _) (meets_dict_values (mixKind X.prog X.w) a hsys) ⟨⟨vs, dof⟩, ?_⟩
  have up : ∀ b u, t1.heap.get? b = some u → (t1.heap.push { cls := .type "dict_values", data := .fields #[.ref a] }).get? b = some u := fun b u e => Heap.get?_push_of_some _ e
  have dat1 : (t1.heap.push { cls := .type "dict_values", data := .fields #[.ref a] }).DictAt (mixKind X.prog X.w) a vs ep := dat.keep up
  have hlv : vs.length = is.length := by
    have e1 := congrArg List.length hv
    rw [List.length_map, List.length_map] at e1
    rw [← e1]
    exact (KV.length rel).symm
  refine sumvals_run (PySem.W.kdl_values (knd := mixKind X.prog X.w) (kvs := vs) (ep := ep)) (I.ok.hd calm) ⟨⟨_, Heap.get?_push_size _ rfl, rfl, rfl⟩, dat1⟩ (fun j => (is[j]?).getD 0) (fun j v hu => ?_) fun g tk t' hk => ?_
  · obtain ⟨k, e1⟩ := hu
    obtain ⟨x, f1, f2⟩ := KV.at' rel e1
    have e2 : (kvs.map (·.2))[j]? = some x := by rw [List.getElem?_map, f1]; rfl
    rw [hv, List.getElem?_map] at e2
    obtain ⟨i, hi, e3⟩ := Option.map_eq_some_iff.mp e2
    subst e3
    obtain ⟨t, e4⟩ := f2
    exact ⟨t, by rw [hi]; exact e4⟩
  · rw [hlv, preSum_list is (fun j => (is[j]?).getD 0) fun i x e => by simp [e]]
    have J1 : Inv X pins σ G { t1 with heap := g, toks := tk } := J.kept fun b u e => hk b u (up b u e)
    exact ⟨.int is.sum, G, J1, ⟨t', rfl⟩, fin⟩
end
def gSumV : List PyData → Option Out
  | [.dict ds] => if isK ds = true then (ints? (ds.map (·.2))).map fun ns => .sh (.int ns.sum) else none
  | _ => none
def rSumV (H : Hp) (x : V) (Q : VK) : Prop := ∃ (a : Addr) (kvs : List (Key × V)) (is : List Int), x = V.ref a ∧ Rd H a (.dK kvs) ∧ kvs.map (·.2) = is.map V.int ∧ Q (.int is.sum) H
section
variable {K : PySem.W.Frag}
theorem i_sumV : Impl K (L1r fun x H Q => rSumV H x Q) gSumV := by
  intro N H vs ds o Q h g q
  unfold gSumV at g
  split at g
  · rename_i ds
    obtain ⟨v, rfl, h1⟩ := h.one
    split at g
    · rename_i hk
      rw [Option.map_eq_some_iff] at g
      obtain ⟨ns, e, rfl⟩ := g
      obtain ⟨a, kvs, rfl, hd, r⟩ := h1.dictK hk
      have e2 := ints_ra e r.vals
      exact ⟨a, kvs, ns, rfl, hd, e2, q _ _ (.refl _) (.int _)⟩
    · cases g
  · cases g
end
section
variable {X : Cx} {W : XW} {pos : Pos}
theorem d_sumV {o : Expr} {p apos mpos : Pos} {mo : M Sl} (calm : X.calm = true) (gl : Gl X "sum") (nm : X.mg "sum" = none) (hd : PE X o (tV X.K W mo)) (hb : attributeBase o "values" X.env (eval o X.env) = eval o X.env := by rfl) (hline : (apos.endLine == mpos.line) = true := by rfl)
    (hse : starEach [Expr.Call (.Attribute o "values" apos) [] [] mpos] X.env = [(false, eval (Expr.Call (.Attribute o "values" apos) [] [] mpos) X.env)] := by rfl) :
    PE X (.Call (.Name "sum" p) [.Call (.Attribute o "values" apos) [] [] mpos] [] pos) (tV X.K W (mUn gSumV mo)) :=
  PE.imp (pe_sumVals calm gl nm hd hb hline hse) fun σ H Q ⟨Γ, δ, γ, r, p⟩ => ⟨Γ, δ, γ, r, (Post.bind p).imp fun x δ1 p1 v H1 r1 =>
    run_op i_sumV (vs := [v]) (rs := [x]) (γ' := γ) r1 (fun e m => by
      rcases List.mem_cons.mp m with rfl | m
      · exact List.mem_cons_self
      · cases m) rfl (p1.imp fun s δ' k v' H'' r' => k v' H'' (drop1 (γ₀ := [(some v, x)]) r'))⟩
end
@[simp ↓] theorem wg_sumV {ds : List (PyData × PyData)} {δ : List Sl} {Q : Sl → List Sl → Prop} : wG (gSumV [.dict ds]) δ Q = (isK ds = true ∧ wO (ints? (ds.map (·.2))) fun ns => Q (.sh (.int ns.sum)) δ) := by
  show wG (if isK ds = true then (ints? (ds.map (·.2))).map fun ns => .sh (.int ns.sum) else none) δ Q = _
  by_cases h : isK ds = true
  · rw [if_pos h]
    refine Eq.trans ?_ (show _ = (_ ∧ _) from propext ⟨fun q => ⟨h, q⟩, fun q => q.2⟩)
    cases ints? (ds.map (·.2)) with
    | none => exact wG_none.trans (wO_none _).symm
    | some x => rw [wO_some]; exact wG_some
  · rw [if_neg h, wG_none]; exact propext ⟨False.elim, fun q => h q.1⟩
/-! ### k in d -/
section
variable {X : Cx}
theorem op_inD (hu : X.A.units + 1 < cLine) : OpR X (compareOp .In) (rInDR false) := by
  intro pins s σ H x y v u Q I rx ry h
  obtain ⟨a, o, rfl, g, q⟩ := h
  cases ry
  exact d_in hu I g rx fun s' I' => ⟨.bl o.isSome, H, I', rfl, q⟩
theorem op_ninD (hu : X.A.units + 1 < cLine) : OpR X (compareOp .NotIn) (rInDR true) := by
  intro pins s σ H x y v u Q I rx ry h
  obtain ⟨a, o, rfl, g, q⟩ := h
  cases ry
  exact d_notIn hu I g rx fun s' I' => ⟨.bl (!o.isSome), H, I', rfl, q⟩
end
section
variable {δ : List Sl} {Q : Sl → List Sl → Prop} {ds : List (PyData × PyData)} {a : Str} {i : Int}
@[simp ↓] theorem wg_inDs {neg : Bool} : wG (gInD neg [.str a, .dict ds]) δ Q = (isK ds = true ∧ Q (.sh (.bool (if neg then !(dget ds (.inr a)).isSome else (dget ds (.inr a)).isSome))) δ) := by
  have en : gInD neg [.str a, .dict ds] = if isK ds = true then some (.sh (.bool (if neg then !(dget ds (.inr a)).isSome else (dget ds (.inr a)).isSome))) else none := by
    show (if isK ds = true then (some (Sum.inr a : Key)).map fun k => Out.sh (.bool (if neg then !(dget ds k).isSome else (dget ds k).isSome)) else (unT ds).bind fun es => (qkey (.str a)).map fun k => Out.sh (.bool (if neg then !(tget es k).isSome else (tget es k).isSome))) = _
    cases unT ds <;> rfl
  rw [en]
  exact wG_if
end
end DL

set_option Elab.async false
set_option linter.all false
set_option maxRecDepth 100000
set_option maxHeartbeats 1000000
namespace DL
open PySem PySem.Spec PyProof.Rows L2
/-! ### papers looked at -/
def tots (B : List (Str × Int)) (k : Str) : Int := ((B.filter fun p => decide (p.1 = k)).map (·.2)).sum
theorem tots_cons (p : Str × Int) (B : List (Str × Int)) (k : Str) : tots (p :: B) k = (if p.1 = k then p.2 else 0) + tots B k := by
  unfold tots
  by_cases h : p.1 = k
  · rw [List.filter_cons_of_pos (by simpa using h), List.map_cons, List.sum_cons, if_pos h]
  · rw [List.filter_cons_of_neg (by simpa using h), if_neg h]; omega
theorem tots_app (A B : List (Str × Int)) (k : Str) : tots (A ++ B) k = tots A k + tots B k := by
  unfold tots
  rw [List.filter_append, List.map_append, List.sum_append]
theorem getD_sums : ∀ (B A : List (Str × Int)) (k : Str), (val (sums A B) k).getD 0 = (val A k).getD 0 + tots B k
  | [], A, k => by show (val A k).getD 0 = _ + 0; omega
  | p :: B, A, k => by
    show (val (sums (addM A p) B) k).getD 0 = _
    rw [getD_sums B, val_addM, tots_cons]
    by_cases h : k = p.1
    · subst h
      rw [if_pos rfl, if_pos rfl]
      show ((val A p.1).getD 0 + p.2) + _ = _
      omega
    · rw [if_neg h, if_neg (fun e => h e.symm)]
      omega
theorem keys_sums : ∀ (B A : List (Str × Int)) (k : Str), k ∈ (sums A B).map (·.1) ↔ k ∈ A.map (·.1) ∨ k ∈ B.map (·.1)
  | [], A, k => by show k ∈ A.map (·.1) ↔ _; simp
  | p :: B, A, k => by
    show k ∈ (sums (addM A p) B).map (·.1) ↔ _
    rw [keys_sums B]
    unfold addM
    rw [put_keys]
    by_cases h : p.1 ∈ A.map (·.1)
    · rw [if_pos h, List.map_cons, List.mem_cons]
      constructor
      · rintro (m | m)
        · exact .inl m
        · exact .inr (.inr m)
      · rintro (m | rfl | m)
        · exact .inl m
        · exact .inl h
        · exact .inr m
    · rw [if_neg h, List.map_cons, List.mem_cons, List.mem_append, List.mem_singleton]
      constructor
      · rintro ((m | m) | m)
        · exact .inl m
        · exact .inr (.inl m)
        · exact .inr (.inr m)
      · rintro (m | m | m)
        · exact .inl (.inl m)
        · exact .inl (.inr m)
        · exact .inr m
/-- what a paper says of each mark -/
def dues (p : List Bn) : List (Str × Int) := p.flatMap fun b => b.1.map fun k => (k, b.2)
def due (c : List (Str × Int)) (p : List Bn) : List (Str × Int) := sums c (dues p)
def ctr (p : List Bn) (k : Str) : Int := tots (dues p) k
theorem dues_cons (b : Bn) (p : List Bn) : dues (b :: p) = (b.1.map fun k => (k, b.2)) ++ dues p := rfl
theorem dues_app (p q : List Bn) : dues (p ++ q) = dues p ++ dues q := by simp [dues]
theorem due_snoc (c : List (Str × Int)) (p : List Bn) (b : Bn) : due c (p ++ [b]) = (b.1.map fun k => (k, b.2)).foldl addM (due c p) := by
  unfold due sums
  rw [dues_app, List.foldl_append]
  simp [dues]
theorem ctr_cons (b : Bn) (p : List Bn) (k : Str) : ctr (b :: p) k = tots (b.1.map fun k => (k, b.2)) k + ctr p k := by
  unfold ctr; rw [dues_cons, tots_app]
theorem ctr_app (p q : List Bn) (k : Str) : ctr (p ++ q) k = ctr p k + ctr q k := by unfold ctr; rw [dues_app, tots_app]
theorem tots_same (m : Int) (k : Str) : ∀ l : List Str, tots (l.map fun k => (k, m)) k = l.count k * m
  | [] => by simp [tots]
  | x :: l => by
    rw [List.map_cons, tots_cons, tots_same m k l, List.count_cons]
    by_cases h : x = k
    · subst h
      simp [Int.add_mul]
      omega
    · simp [h]
theorem ctr_one (b : Bn) (k : Str) : tots (b.1.map fun k => (k, b.2)) k = b.1.count k * b.2 := tots_same _ _ _
theorem sumC_app (A B : List (Str × Int)) : sumC (A ++ B) = sumC A + sumC B := by simp [sumC]
theorem sumC_same (m : Int) : ∀ l : List Str, sumC (l.map fun k => (k, m)) = l.length * m
  | [] => by simp [sumC]
  | x :: l => by
    rw [List.map_cons, sumC_cons, sumC_same m l]
    have e : ((l.length + 1 : Nat) : Int) * m = l.length * m + m := by rw [Int.natCast_add, Int.add_mul]; simp
    rw [List.length_cons, e]
    show m + _ = _
    omega
/-- how often a mark stands in a stream -/
def times (l : List Th) (k : Str) : Int := ((l.filter fun t => decide (t.mark = k)).map Th.many).sum
theorem times_cons (t : Th) (l : List Th) (k : Str) : times (t :: l) k = (if t.mark = k then t.many else 0) + times l k := by
  unfold times
  by_cases h : t.mark = k
  · rw [List.filter_cons_of_pos (by simpa using h), List.map_cons, List.sum_cons, if_pos h]
  · rw [List.filter_cons_of_neg (by simpa using h), if_neg h]; omega
theorem times_perm {l m : List Th} (h : l.Perm m) (k : Str) : times l k = times m k := by
  unfold times
  induction h with
  | nil => rfl
  | cons x _ ih => 
    have := ih
    by_cases hx : x.mark = k
    · rw [List.filter_cons_of_pos (by simpa using hx), List.filter_cons_of_pos (by simpa using hx), List.map_cons, List.map_cons, List.sum_cons, List.sum_cons, ih]
    · rw [List.filter_cons_of_neg (by simpa using hx), List.filter_cons_of_neg (by simpa using hx), ih]
  | swap x y l =>
    have e : ∀ a b : Th, times (a :: b :: l) k = times (b :: a :: l) k := fun a b => by simp only [times_cons]; omega
    exact e y x
  | trans _ _ h1 h2 => exact h1.trans h2
theorem times_zero {l : List Th} {k : Str} (h : ∀ t ∈ l, t.mark ≠ k) : times l k = 0 := by
  unfold times
  rw [List.filter_eq_nil_iff.mpr fun t m => by simpa using h t m]
  rfl
theorem pick_sum {m : Int} {x : Str} : ∀ {ks : List Str}, ks.Nodup → (ks.map fun k => if x = k then m else 0).sum = if x ∈ ks then m else 0
  | [], _ => by simp
  | k :: ks, h => by
    rw [List.nodup_cons] at h
    rw [List.map_cons, List.sum_cons, pick_sum h.2]
    by_cases e : x = k
    · subst e
      rw [if_pos rfl, if_neg h.1, if_pos (by simp)]
      omega
    · rw [if_neg e]
      by_cases e2 : x ∈ ks
      · rw [if_pos e2, if_pos (List.mem_cons_of_mem _ e2)]; omega
      · rw [if_neg e2, if_neg (by simp [e, e2])]; omega
theorem sum_add {α : Type} (f g : α → Int) : ∀ l : List α, (l.map fun x => f x + g x).sum = (l.map f).sum + (l.map g).sum
  | [] => by simp
  | x :: l => by rw [List.map_cons, List.map_cons, List.map_cons, List.sum_cons, List.sum_cons, List.sum_cons, sum_add f g l]; omega
theorem things_times {ks : List Str} (nd : ks.Nodup) : ∀ {l : List Th}, (∀ t ∈ l, t.mark ∈ ks) → things l = (ks.map (times l)).sum
  | [], _ => by
    have : ∀ ks : List Str, (ks.map (times [])).sum = 0 := fun ks => by
      induction ks with
      | nil => rfl
      | cons k ks ih => rw [List.map_cons, List.sum_cons, ih]; rfl
    rw [this]
    rfl
  | t :: l, h => by
    have ih := things_times nd (l := l) fun u m => h u (List.mem_cons_of_mem _ m)
    have e : (times (t :: l)) = fun k => (if t.mark = k then t.many else 0) + times l k := funext fun k => times_cons t l k
    have e2 : things (t :: l) = t.many + things l := by simp [things]
    rw [e, sum_add, pick_sum nd, if_pos (h t (by simp)), e2, ih]
def bunchB (r : Int) (b : Bn) : Bool := decide (0 < b.2) && (decide (r < (b.1.length : Int)) && decide (b.1 = setT b.1))
def shownB (l : List Th) (T : Tl) (p : List Bn) : Bool :=
  madeB T.d && (p.all (bunchB T.room) && (decide ((p.map (·.2)).sum = T.lt) && (decide (things l = T.tot) && (l.all (fun t => decide (t.mark ∈ (due T.cts p).map (·.1))) && (due T.cts p).all fun q => decide (times l q.1 = q.2)))))
theorem setT_id {l : List Str} (h : l.Pairwise ltS) : l = setT l := setT_eq h fun _ => Iff.rfl
theorem bunchB_true {r : Int} {b : Bn} : bunchB r b = true ↔ 0 < b.2 ∧ r < (b.1.length : Int) ∧ b.1 = setT b.1 := by simp [bunchB]
theorem ctr_bds {r : Int} (k : Str) : ∀ {p : List Bn}, (∀ b ∈ p, bunchB r b = true) → 0 ≤ ctr p k ∧ ctr p k ≤ (p.map (·.2)).sum
  | [], _ => by simp [ctr, dues, tots]
  | b :: p, h => by
    obtain ⟨h1, h2, h3⟩ := bunchB_true.mp (h b (by simp))
    have ih := ctr_bds k (p := p) fun c m => h c (List.mem_cons_of_mem _ m)
    have nd : b.1.Nodup := by rw [h3]; exact setT_nd _
    rw [ctr_cons, ctr_one, List.map_cons, List.sum_cons]
    have hc : b.1.count k ≤ 1 := List.nodup_iff_count.mp nd k
    have : b.1.count k = 0 ∨ b.1.count k = 1 := by omega
    rcases this with e | e <;> rw [e] <;> simp <;> omega
theorem room_dues {r : Int} (r0 : 0 ≤ r) : ∀ {p : List Bn}, (∀ b ∈ p, bunchB r b = true) → (r + 1) * (p.map (·.2)).sum ≤ sumC (dues p)
  | [], _ => by simp [dues, sumC]
  | b :: p, h => by
    obtain ⟨h1, h2, h3⟩ := bunchB_true.mp (h b (by simp))
    have ih := room_dues r0 (p := p) fun c m => h c (List.mem_cons_of_mem _ m)
    rw [dues_cons, sumC_app, sumC_same, List.map_cons, List.sum_cons, Int.mul_add]
    have := Int.mul_le_mul_of_nonneg_right (show r + 1 ≤ (b.1.length : Int) by omega) (show 0 ≤ b.2 by omega)
    omega
theorem sum_vals {A : List (Str × Int)} (f : Str → Int) (h : ∀ q ∈ A, f q.1 = q.2) : ((A.map (·.1)).map f).sum = sumC A := by
  have : (A.map (·.1)).map f = A.map (·.2) := by
    rw [List.map_map]
    exact List.map_congr_left h
  rw [this]
  rfl
theorem mem_of_val {A : List (Str × Int)} {k : Str} {v : Int} (h : val A k = some v) : (k, v) ∈ A := by
  unfold val at h
  obtain ⟨p, hp, rfl⟩ := Option.map_eq_some_iff.mp h
  have e := List.find?_some hp
  have : p.1 = k := by simpa using e
  rw [← this]
  exact List.mem_of_find?_eq_some hp
/-- where a paper shows a tally of a stream, all is as it is told -/
theorem shown_held {l : List Th} {T : Tl} {p : List Bn} (nd : (T.cts.map (·.1)).Nodup) (r0 : 0 ≤ T.room) (h : shownB l T p = true) :
    (∀ k, times l k = (val T.cts k).getD 0 + ctr p k ∧ 0 ≤ ctr p k ∧ ctr p k ≤ T.lt) ∧ (T.room + 1) * T.lt ≤ T.tot - sumC T.cts := by
  simp only [shownB, Bool.and_eq_true, List.all_eq_true, decide_eq_true_eq] at h
  obtain ⟨h1, h2, h3, h4, h5, h6⟩ := h
  have ndD := sums_nd (B := dues p) nd
  refine ⟨fun k => ?_, ?_⟩
  · obtain ⟨c1, c2⟩ := ctr_bds k h2
    refine ⟨?_, c1, by omega⟩
    have g := getD_sums (dues p) T.cts k
    rw [show ctr p k = tots (dues p) k from rfl, ← g]
    cases e : val (sums T.cts (dues p)) k with
    | some v => exact h6 (k, v) (mem_of_val e)
    | none =>
      refine times_zero fun t m z => ?_
      have := h5 t m
      rw [z] at this
      exact val_none.mp e this
  · have e1 : things l = sumC (due T.cts p) := by
      rw [things_times ndD (l := l) h5]
      exact sum_vals _ h6
    have e2 : sumC (due T.cts p) = sumC T.cts + sumC (dues p) := sumC_sums nd
    have := room_dues r0 h2
    rw [h3] at this
    omega
/-- a stream of just what counts and paper come to is shown by each paper that comes to the same -/
theorem shown_true {l : List Th} {T : Tl} {p p0 : List Bn} (nd : (T.cts.map (·.1)).Nodup) (hm : madeB T.d = true) (hb : ∀ b ∈ p, bunchB T.room b = true) (hs : (p.map (·.2)).sum = T.lt) (ht : things l = T.tot)
    (hl : ∀ k, times l k = (val (due T.cts p0) k).getD 0) (hk : ∀ t ∈ l, t.mark ∈ (due T.cts p0).map (·.1)) (hc : ∀ k, ctr p k = ctr p0 k) (hm2 : ∀ k, k ∈ (dues p).map (·.1) ↔ k ∈ (dues p0).map (·.1)) : shownB l T p = true := by
  simp only [shownB, Bool.and_eq_true, List.all_eq_true, decide_eq_true_eq]
  refine ⟨hm, hb, hs, ht, fun t m => ?_, fun q m => ?_⟩
  · have := (keys_sums _ _ _).mp (hk t m)
    refine (keys_sums _ _ _).mpr (this.imp id (hm2 _).mpr)
  · have ndD := sums_nd (B := dues p) nd
    have e := val_mem ndD m
    have e0 := getD_sums (dues p) T.cts q.1
    have e1 := getD_sums (dues p0) T.cts q.1
    have e2 := hc q.1
    unfold ctr at e2
    rw [hl]
    show (val (sums T.cts (dues p0)) q.1).getD 0 = q.2
    rw [show val (sums T.cts (dues p)) q.1 = some q.2 from e] at e0
    have e0' : q.2 = (val T.cts q.1).getD 0 + tots (dues p) q.1 := e0
    omega
end DL

set_option Elab.async false
set_option linter.all false
set_option maxRecDepth 100000
set_option maxHeartbeats 1000000
namespace DL
open PySem PySem.Spec PyProof.Rows L2
/-! ### comprehensions by what holds behind each part -/
section
variable {α : Type} {m : M Sl} {t : M Bool} {g : GM} {vs : List Nat} {Q : List PyData → List Sl → Prop} {δ : List Sl}
theorem wL_pre (en : α → PyData) (l : List α) (I : List α → List PyData → List Sl → Prop) (hz : l.length ≤ 1000000)
    (h : ∀ u x v, l = u ++ x :: v → ∀ acc δ, I u acc δ → acc.length ≤ u.length ∧ wO (g (.sh (en x)) δ) fun δ1 => wM (t δ1) fun b δ2 => (b = true → wM (m δ2) fun s δ3 => ∃ y, esc s = some y ∧ I (u ++ [x]) (acc ++ [y]) (wipeD δ3 vs)) ∧ (b = false → I (u ++ [x]) acc (wipeD δ2 vs)))
    (h0 : I [] [] δ) (he : ∀ acc δ, I l acc δ → Q acc δ) : wM (lcL g t m vs (l.map en) [] δ) Q := by
  have go : ∀ (v u : List α) (acc : List PyData) (δ : List Sl), l = u ++ v → I u acc δ → wM (lcL g t m vs (v.map en) acc δ) Q := by
    intro v
    induction v with
    | nil => intro u acc δ e i; rw [List.map_nil, wL_nil]; rw [List.append_nil] at e; subst e; exact he acc δ i
    | cons x r ih =>
      intro u acc δ e i
      rw [List.map_cons, wL_cons]
      obtain ⟨hz2, h1⟩ := h u x r e acc δ i
      have hl := congrArg List.length e
      simp at hl
      refine h1.mono fun δ1 h2 => h2.mono fun b δ2 h3 => ⟨fun hb => (h3.1 hb).mono fun s δ3 h4 => ?_, fun hb => ih (u ++ [x]) acc _ (by rw [e]; simp) (h3.2 hb)⟩
      obtain ⟨y, he, h4⟩ := h4
      rw [he]
      exact ⟨by omega, ih (u ++ [x]) _ _ (by rw [e]; simp) h4⟩
  exact go l [] [] δ rfl h0
/-- without a test: typed, the state changes -/
theorem wL_preU {β : Type} (en : α → PyData) (fn : β → PyData) (l : List α) (I : List α → List β → List Sl → Prop) (hz : l.length ≤ 1000000)
    (h : ∀ u x v, l = u ++ x :: v → ∀ acc δ, I u acc δ → acc.length = u.length → wO (g (.sh (en x)) δ) fun δ1 => wM (m δ1) fun s δ3 => ∃ y, esc s = some (fn y) ∧ I (u ++ [x]) (acc ++ [y]) (wipeD δ3 vs))
    (h0 : I [] [] δ) (he : ∀ acc δ, I l acc δ → acc.length = l.length → Q (acc.map fn) δ) : wM (lcL g yesM m vs (l.map en) [] δ) Q := by
  refine wL_pre en l (fun u a δ => ∃ acc : List β, a = acc.map fn ∧ acc.length = u.length ∧ I u acc δ) hz ?_ ⟨[], rfl, rfl, h0⟩ ?_
  · rintro u x v hv a δ ⟨acc, rfl, hl, i⟩
    refine ⟨by simp [hl], (h u x v hv acc δ i hl).mono fun δ1 h1 => ?_⟩
    rw [wM_yes]
    refine ⟨fun _ => h1.mono fun s δ3 h2 => ?_, fun z => nomatch z⟩
    obtain ⟨y, e, i2⟩ := h2
    exact ⟨fn y, e, acc ++ [y], by simp, by simp [hl], i2⟩
  · rintro a δ ⟨acc, rfl, hl, i⟩
    exact he acc δ i hl
end
end DL

set_option Elab.async false
set_option linter.all false
set_option maxRecDepth 100000
set_option maxHeartbeats 1000000
namespace DL
open PySem PySem.Spec PyProof.Rows L2 LamX NdefX
/-! ### function values -/
section
variable {K : PySem.W.Frag} {N : Addr → Prop} {H H' : Hp} {Γ : Gm} {σ : L2.St} {δ δ' : List Sl} {γ γ' : List Ent}
/-- arguments: data, function values -/
inductive AO (K : PySem.W.Frag) (N : Addr → Prop) (H : Hp) : List V → List Sl → Prop
  | nil : AO K N H [] []
  | sh {v : V} {d : PyData} {vs : List V} {rs : List Sl} : R K N H v d → AO K N H vs rs → AO K N H (v :: vs) (.sh d :: rs)
  | clo {c : Clo} {ds : List PyData} {vs : List V} {rs : List Sl} : RA K N H c.ws ds → (∀ q ∈ c.cs, H q.1 = some (CodeO q.1 q.2)) → AO K N H vs rs → AO K N H (.ref c.f :: vs) (.clo c ds :: rs)
theorem AO.length : ∀ {vs : List V} {rs : List Sl}, AO K N H vs rs → vs.length = rs.length
  | _, _, .nil => rfl
  | _, _, .sh _ r => congrArg Nat.succ r.length
  | _, _, .clo _ _ r => congrArg Nat.succ r.length
theorem AO.mono {N' : Addr → Prop} (hN : ∀ a, N a → N' a) : ∀ {vs : List V} {rs : List Sl}, AO K N H vs rs → AO K N' H vs rs
  | _, _, .nil => .nil
  | _, _, .sh h r => .sh (h.mono (fun a n _ => hN a n) (fun _ _ h _ => h) fun _ _ _ h => h) (r.mono hN)
  | _, _, .clo h q r => .clo (h.mono (fun a n _ => hN a n) (fun _ _ h _ => h) fun _ _ _ h => h) q (r.mono hN)
theorem AO.of : ∀ {vs : List V} {ds : List PyData}, RA K N H vs ds → AO K N H vs (ds.map .sh)
  | _, _, .nil => .nil
  | _, _, .cons h r => .sh h (AO.of r)
def escH1 : Sl → Option Sl
  | .sh d => some (.sh d)
  | .ow d => some (.sh d)
  | .clo c ds => some (.clo c ds)
  | _ => none
def escH : List Sl → Option (List Sl)
  | [] => some []
  | s :: r => match escH1 s, escH r with
    | some a, some b => some (a :: b)
    | _, _ => none
theorem RS.escH1 {v : Option V} {s t : Sl} (r : RS K Γ σ δ ((v, s) :: γ) H) (h : DL.escH1 s = some t) : RS K Γ σ δ ((v, t) :: γ) H := by
  cases s with
  | sh d => cases h; exact r
  | ow d => cases h; exact r.release
  | clo c ds => cases h; exact r
  | _ => cases h
theorem escH_na : ∀ {rs ts : List Sl}, escH rs = some ts → ∀ t ∈ ts, t.isAl = false
  | [], _, h, t, m => by cases h; cases m
  | s :: r, ts, h, t, m => by
    unfold escH at h
    cases h1 : DL.escH1 s with
    | none => simp only [h1] at h; cases h
    | some a =>
      cases h2 : DL.escH r with
      | none => simp only [h1, h2] at h; cases h
      | some b =>
        simp only [h1, h2] at h
        cases h
        rcases List.mem_cons.mp m with rfl | m
        · cases s <;> cases h1 <;> rfl
        · exact escH_na h2 t m
theorem RS.escH : ∀ {vs : List V} {rs ts : List Sl} {γ : List Ent}, RS K Γ σ δ ((vs.map some).zip rs ++ γ) H → vs.length = rs.length → DL.escH rs = some ts → AO K (Nn Γ (σ.zip δ ++ γ)) H vs ts
  | [], [], ts, γ, r, hl, h => by cases h; exact .nil
  | v :: vs, s :: rs, ts, γ, r, hl, h => by
    unfold DL.escH at h
    cases h1 : DL.escH1 s with
    | none => simp only [h1] at h; cases h
    | some t =>
      cases h2 : DL.escH rs with
      | none => simp only [h1, h2] at h; cases h
      | some ts' =>
        simp only [h1, h2] at h
        cases h
        have r1 : RS K Γ σ δ ((some v, t) :: ((vs.map some).zip rs ++ γ)) H := RS.escH1 (s := s) r h1
        have r2 := RS.escH (γ := (some v, t) :: γ) (r1.perm List.perm_middle.symm) (Nat.succ.inj hl) h2
        have r3 : RS K Γ σ δ ((some v, t) :: γ) H := r1.sublist ((List.sublist_append_right _ _).cons_cons _)
        have own : ∀ a, Nn Γ (σ.zip δ ++ (some v, t) :: γ) a → Nn Γ (σ.zip δ ++ γ) a := fun a n => ⟨n.1, fun z => n.2 (z.of_sub fun e m _ => (List.mem_append.mp m).elim (List.mem_append_left _) fun q => List.mem_append_right _ (List.mem_cons_of_mem _ q))⟩
        have q := r3.rel.each _ (List.mem_append_right _ List.mem_cons_self)
        cases s with
        | sh d => cases h1; obtain ⟨v', e, q⟩ := q; cases e; exact .sh (q.mono (fun a n _ => own a n) (fun _ _ h _ => h) fun _ _ _ h => h) (r2.mono own)
        | ow d => cases h1; obtain ⟨v', e, q⟩ := q; cases e; exact .sh (q.mono (fun a n _ => own a n) (fun _ _ h _ => h) fun _ _ _ h => h) (r2.mono own)
        | clo c ds => cases h1; obtain ⟨e, q, k⟩ := q; cases e; exact .clo (q.mono (fun a n _ => own a n) (fun _ _ h _ => h) fun _ _ _ h => h) k (r2.mono own)
        | _ => cases h1
  | [], _ :: _, _, _, _, hl, _ => by cases hl
  | _ :: _, [], _, _, _, hl, _ => by cases hl
end
/-- what is wanted of an answer -/
def Wants (K : PySem.W.Frag) (cl : Str → Value) (B : Addr → Prop) (H : Hp) (x : FRes) (Q : VK) (E : XK) : Prop := match x with
  | .ok r none => ∀ v H', SameD K H H' → ResOk K B H H' v r → Q v H'
  | .er e => e.val = none ∧ ∀ H', SameD K H H' → E (cl e.cls) none H'
  | _ => False
/-- the function at c may be called from the heap h on: it keeps F's promise -/
def CloAt (P : Program) (w : World) (K : PySem.W.Frag) (mg : Str → Option Value) (base : Heap) (cl : Str → Value) (k : Nat) (h : Heap) (H : Hp) (c : Clo) (F : List PyData → FRes) : Prop := ∃ S : List Addr,
  (∀ b ∈ S, H b = none ∧ ∃ o, h.get? b = some o) ∧ (PySem.W.keepIn K (.ref c.f) = true ∨ (c.f ∈ S ∧ PySem.W.FnAt c.f h)) ∧
  ∀ (A : Around) (outer : List Env) (s : Shared) (H' : Hp) (us : List Value) (vs : List V) (Q : VK) (E : XK), Room k A → Env0 P w K mg base A outer s H' →
    (∀ b ∈ S, H' b = none ∧ ∀ o, h.get? b = some o → ∃ sl, s.heap.get? b = some { o with slots := sl }) → (∀ q ∈ c.cs, H' q.1 = some (CodeO q.1 q.2)) → Vals vs us → spP K cl F (vs ++ c.ws) H' Q E →
    codeAny (model P w) A (.call (.ref c.f) ⟨us, []⟩) (CR (L2.CX P w) outer P w H' s Q E) s
section
variable {P : Program} {w : World} {K : PySem.W.Frag} {mg : Str → Option Value} {base : Heap} {cl : Str → Value} {k j : Nat} {h h1 : Heap} {H H1 : Hp} {c : Clo} {F : List PyData → FRes} {fs : List Addr}
theorem fnAt_slots {f : Addr} {sl : Array (Option Value)} (e : PySem.W.FnAt f h) (hs : ∀ o, h.get? f = some o → ∃ sl, h1.get? f = some { o with slots := sl }) : PySem.W.FnAt f h1 := by
  obtain ⟨a, b, c, d, e⟩ := e
  obtain ⟨sl, e2⟩ := hs _ e
  exact ⟨_, _, _, _, e2⟩
theorem CloAt.keep (x : CloAt P w K mg base cl k h H c F) (u : Un fs [] H H1 h h1) : CloAt P w K mg base cl k h1 H1 c F := by
  obtain ⟨S, a, b, r⟩ := x
  have st : ∀ p ∈ S, H1 p = none ∧ ∀ o, h.get? p = some o → ∃ sl, h1.get? p = some { o with slots := sl } := fun p m => by
    obtain ⟨n, o, e⟩ := a p m
    exact ⟨u.free p o e n (fun z => nomatch z), fun o e => u.any e n (fun z => nomatch z)⟩
  refine ⟨S, fun p m => ?_, ?_, fun A outer s H' us vs Q E hr e0 hS hc rv q => r A outer s H' us vs Q E hr e0 (fun p m => ?_) hc rv q⟩
  · obtain ⟨n, o, e⟩ := a p m
    obtain ⟨q1, q2⟩ := st p m
    obtain ⟨sl, e2⟩ := q2 o e
    exact ⟨q1, _, e2⟩
  · rcases b with b | ⟨m, b⟩
    · exact .inl b
    · exact .inr ⟨m, fnAt_slots (sl := #[]) b (st _ m).2⟩
  · refine ⟨(hS p m).1, fun o e => ?_⟩
    obtain ⟨sl, e1⟩ := (st p m).2 o e
    obtain ⟨sl', e2⟩ := (hS p m).2 _ e1
    exact ⟨sl', e2⟩
theorem CloAt.mono (x : CloAt P w K mg base cl j h H c F) (hj : j ≤ k) : CloAt P w K mg base cl k h H c F := by
  obtain ⟨S, a, b, r⟩ := x
  exact ⟨S, a, b, fun A outer s H' us vs Q E hr => r A outer s H' us vs Q E (hr.mono hj)⟩
/-- a def as a function value -/
theorem CloAt.of {f : Addr} {fd : FuncData} {ps : List Str} (G : FnOk P w K mg base (L2.CX P w) k f fd ps (spP K cl F)) (hk : PySem.W.keepIn K (.ref f) = true) (hb : Binds K fd ps []) (hl : ∀ ds, F ds ≠ .no → ds.length = ps.length) : CloAt P w K mg base cl k h H ⟨f, [], []⟩ F := by
  refine ⟨[], fun b m => (nomatch m), .inl hk, fun A outer s H' us vs Q E hr e0 _ _ rv q => ?_⟩
  rw [List.append_nil] at q
  have KX : K.In s.heap := e0.mod.kin.keeps fun b o e => (e0.bs b o e).1
  have hlen : us.length = ps.length := by
    obtain ⟨B, ds, _, ra, hq⟩ := q
    rw [← rv.length, ra.length]
    exact hl ds fun z => by rw [z] at hq; exact hq
  have hb2 := hb s us KX (by rw [List.append_nil]; exact hlen)
  rw [List.append_nil] at hb2
  exact G.run A outer s H' ⟨us, []⟩ us vs Q E hr e0 hb2 rv q
/-- the functions among the arguments -/
def CloAll (P : Program) (w : World) (K : PySem.W.Frag) (mg : Str → Option Value) (base : Heap) (cl : Str → Value) (k : Nat) (h : Heap) (H : Hp) (Fs : List (List PyData → FRes)) (rs : List Sl) : Prop :=
  ∀ (i : Nat) (c : Clo) (ds : List PyData), rs[i]? = some (Sl.clo c ds) → ∃ F, Fs[i]? = some F ∧ CloAt P w K mg base cl k h H c F
theorem CloAll.keep {Fs : List (List PyData → FRes)} {rs : List Sl} (x : CloAll P w K mg base cl k h H Fs rs) (u : Un fs [] H H1 h h1) : CloAll P w K mg base cl k h1 H1 Fs rs := fun i c ds e => by
  obtain ⟨F, e1, q⟩ := x i c ds e
  exact ⟨F, e1, q.keep u⟩
theorem CloAll.mono {Fs : List (List PyData → FRes)} {rs : List Sl} (x : CloAll P w K mg base cl j h H Fs rs) (hj : j ≤ k) : CloAll P w K mg base cl k h H Fs rs := fun i c ds e => by
  obtain ⟨F, e1, q⟩ := x i c ds e
  exact ⟨F, e1, q.mono hj⟩
end
/-- a def that is handed functions: G its answer, Fs what the functions tell; kc: their level -/
structure HOk (P : Program) (w : World) (K : PySem.W.Frag) (mg : Str → Option Value) (base : Heap) (cl : Str → Value) (kc k : Nat) (g : Addr) (Fs : List (List PyData → FRes)) (G : List Sl → FRes) : Prop where
  run : ∀ (A : Around) (outer : List Env) (s : Shared) (H : Hp) (us : List Value) (vs : List V) (rs : List Sl) (B : Addr → Prop) (Q : VK) (E : XK), Room k A → Env0 P w K mg base A outer s H → Vals vs us →
    ((∀ p, H p = none → B p) ∧ (∀ a, B a → nt K a) ∧ Tb K H) → AO K B H vs rs → CloAll P w K mg base cl kc s.heap H Fs rs → Wants K cl B H (G rs) Q E →
    codeAny (model P w) A (.call (.ref g) ⟨us, []⟩) (CR (L2.CX P w) outer P w H s Q E) s
/-! ### a def's body from its arguments -/
def runS (n : Nat) (m : SM) (rs : List Sl) : FRes := match m (startD n rs) with
  | .nx _ => .ok (.sh .none) none
  | .rt r _ => match resOf r with
    | some s => .ok s none
    | none => .no
  | .er e _ => .er e
  | _ => .no
section
variable {P : Program} {w : World} {K : PySem.W.Frag} {mg : Str → Option Value} {base : Heap} {x qual : Str} {params : Arguments} {body : List Stmt} {scope : Scope} {dvs : List V} {kws : List (Str × V)} {f : Addr} {fd : FuncData} {cl : Str → Value}
theorem ao_ents {B : Addr → Prop} {H : Hp} : ∀ {vs : List V} {rs : List Sl}, AO K B H vs rs → ∀ e ∈ (vs.map some).zip rs, (∃ v d, e = (some v, .sh d) ∧ R K B H v d) ∨ ∃ c ds, e = (some (.ref c.f), .clo c ds) ∧ RA K B H c.ws ds ∧ ∀ q ∈ c.cs, H q.1 = some (CodeO q.1 q.2)
  | _, _, .nil, e, m => by cases m
  | _, _, .sh h r, e, m => by
    rcases List.mem_cons.mp m with rfl | m
    · exact .inl ⟨_, _, rfl, h⟩
    · exact ao_ents r e m
  | _, _, .clo h q r, e, m => by
    rcases List.mem_cons.mp m with rfl | m
    · exact .inr ⟨_, _, rfl, h, q⟩
    · exact ao_ents r e m
theorem entry_S {N : List Str} {m : SM} {vs : List V} {rs : List Sl} {B : Addr → Prop} {H : Hp} {Q : VK} {E : XK} (hB : (∀ p, H p = none → B p) ∧ (∀ a, B a → nt K a) ∧ Tb K H) (ao : AO K B H vs rs) (h : Wants K cl B H (runS N.length m rs) Q E) :
    tS K (WE cl E) m { nx := fun _ H' => Q .non H', rt := Q } (L2.start N vs) H := by
  have rel : Rel K ⟨H, B, []⟩ ((vs.map some).zip rs) [] H := by
    have own : ∀ a, ¬ OwnA ((vs.map some).zip rs ++ []) a := fun a ⟨e, m, o, q⟩ => by
      rw [List.append_nil] at m
      rcases ao_ents ao e m with ⟨v, d, rfl, _⟩ | ⟨c, ds, rfl, _⟩ <;> cases o
    refine ⟨hB.1, fun a u h _ _ => h, fun a h => h, hB.2.1, hB.2.2, fun a m => (nomatch m), fun e m => ?_, ?_⟩
    · rw [List.append_nil] at m
      rcases ao_ents ao e m with ⟨v, d, rfl, r⟩ | ⟨c, ds, rfl, r, q⟩
      · exact ⟨v, rfl, r.mono (fun a n _ => ⟨n, own a⟩) (fun _ _ h _ => h) fun _ _ _ h => h⟩
      · exact ⟨rfl, r.mono (fun a n _ => ⟨n, own a⟩) (fun _ _ h _ => h) (fun _ _ _ h => h), q⟩
    · rw [List.append_nil]
      refine List.pairwise_of_forall_mem_list fun x hx y hy o => ?_
      rcases ao_ents ao x hx with ⟨v, d, rfl, _⟩ | ⟨c, ds, rfl, _⟩ <;> cases o
  have rs0 := rel_start (N := N) ao.length (fun s m => by
    obtain ⟨i, hi, e⟩ := List.mem_iff_getElem.mp m
    have hi2 : i < (vs.map some).length := by rw [List.length_map, ao.length]; exact hi
    have mz : ((vs.map some)[i], s) ∈ (vs.map some).zip rs := by
      refine List.mem_of_getElem? (i := i) ?_
      rw [List.getElem?_zip_eq_some]
      exact ⟨List.getElem?_eq_getElem hi2, by rw [← e]; exact List.getElem?_eq_getElem hi⟩
    rcases ao_ents ao _ mz with ⟨v, d, e, _⟩ | ⟨c, ds, e, _⟩
    · have := congrArg Prod.snd e
      rw [show s = .sh d from this] <;> rfl
    · have := congrArg Prod.snd e
      rw [show s = .clo c ds from this] <;> rfl) rel
  refine ⟨_, _, [], rs0, (fun _ m => nomatch m), ?_⟩
  have ends : ∀ {σ δ γ H'}, RS K ⟨H, B, []⟩ σ δ γ H' → SameD K H H' := fun r => ⟨fun a u t h => r.rel.keep a u h (fun z => nomatch z) t, r.rel.kfr, r.rel.tb⟩
  unfold runS at h
  cases q : m (startD N.length rs) with
  | nx δ => simp only [q] at h; exact fun σ H' r => h .non H' (ends r) .non
  | rt r δ =>
    simp only [q] at h
    cases q2 : resOf r with
    | none => simp only [q2] at h; exact h.elim
    | some sr =>
      simp only [q2] at h
      intro σ v H' r'
      refine h v H' (ends r') ?_
      cases r with
      | sh d =>
        cases q2
        exact (r'.get (List.mem_append_right _ List.mem_cons_self)).mono (fun a n _ => n.1) (fun _ _ h _ => h) fun _ _ _ h => h
      | ow d =>
        cases q2
        obtain ⟨p, e, h0, hBp, c⟩ := r'.rel.each _ (List.mem_append_right _ List.mem_cons_self)
        cases e
        exact ⟨p, rfl, h0, c.mono (fun a n _ => ⟨n.1, fun z => n.2 (z ▸ ⟨_, List.mem_append_right _ List.mem_cons_self, rfl, rfl⟩)⟩) (fun _ _ h _ => h) (fun _ _ _ h => h) fun _ h => h⟩
      | raw y =>
        cases q2
        have e := r'.rel.each _ (List.mem_append_right _ List.mem_cons_self)
        exact Option.some.inj e
      | _ => cases q2
  | bk δ => simp only [q] at h; exact h.elim
  | ct δ => simp only [q] at h; exact h.elim
  | er e δ => simp only [q] at h; exact fun σ H' r => ⟨h.1, h.2 H' (ends r)⟩
  | no => simp only [q] at h; exact h.elim
/-- THE RULE for a def that is handed functions -/
theorem fn_H {N ps : List Str} {kc k : Nat} {m : List Sl → SM} {Fs : List (List PyData → FRes)} {G : List Sl → FRes} (FD : FunD K x qual params body scope [] kws f fd) (bd : Binds K fd ps []) (S : FnScope N ps scope) (hG : ∀ rs, G rs ≠ .no → rs.length = ps.length ∧ G rs = runS N.length (m rs) rs)
    (hb : ∀ (cdv : Value) (A : Around) (outer : List Env) (s : Shared) (H : Hp) (E : XK) (rs : List Sl), G rs ≠ .no → CloAll P w K mg base cl kc s.heap H Fs rs → Room k (A.deeper (envOfC qual scope s.heap.objs.size f cdv)) → PSs (cxOf (L2.CX P w) P w K mg base N qual scope f cdv A outer s H E) body (tS K (WE cl E) (m rs))) :
    HOk P w K mg base cl kc (k + 1) f Fs G := by
  obtain ⟨oc, od, dV, kV, doc, pm, an, cdv, ct, osl, rfl, lk, hcd, _, _⟩ := FD.ex
  refine ⟨fun A outer s H us vs rs B Q E hr e0 rv hB ao ca wq => ?_⟩
  have hn : G rs ≠ .no := fun z => by rw [z] at wq; exact wq
  obtain ⟨hl, he⟩ := hG rs hn
  have KX : K.In s.heap := e0.mod.kin.keeps fun b o e => (e0.bs b o e).1
  have hlv : vs.length = ps.length := by rw [ao.length]; exact hl
  have hb2 := bd s us KX (by rw [List.append_nil, ← rv.length]; exact hlv)
  rw [List.append_nil] at hb2
  refine run_ofS lk hcd S hr e0 hb2 rv hlv fun hr2 => ⟨_, hb cdv A outer s H E rs hn ca hr2, ?_⟩
  exact entry_S hB ao (by rw [← he]; exact wq)
end
end DL

set_option Elab.async false
set_option linter.all false
set_option maxRecDepth 100000
set_option maxHeartbeats 1000000
namespace DL
open PySem PySem.Spec PyProof.Rows L2 LamX NdefX
/-! ### functions called, handed on, made -/
def resF (x : FRes) : M Sl := fun δ => match x with
  | .ok r none => .ok r δ
  | .er e => if e.val.isNone = true then .er e δ else .no
  | _ => .no
section
variable {X : Cx} {W : XW} {Γ : Gm} {σ : L2.St} {δ δ' : List Sl} {γ γ' : List Ent} {H H' : Hp} {cl : Str → Value} {Q : VK}
theorem wants_of {x : FRes} (r : RS X.K Γ σ δ γ H) (p : Post X.K W Γ σ γ (resF x δ) fun s δ' => ∀ v H', RS X.K Γ σ δ' ((some v, s) :: γ) H' → Q v H') : Wants X.K cl (Nn Γ (σ.zip δ ++ γ)) H x Q (EW cl W σ) := by
  unfold resF at p
  cases x with
  | ok s out =>
    cases out with
    | none => exact fun v H' sm ok => p v H' (r.res sm ok)
    | some o => exact p.elim
  | er e =>
    by_cases hv : e.val.isNone = true
    · simp only [if_pos hv] at p
      have hv2 : e.val = none := Option.isNone_iff_eq_none.mp hv
      exact ⟨hv2, fun H' sm => ⟨e, hv2, rfl, rfl, p H' (r.sameD sm)⟩⟩
    · simp only [if_neg hv] at p; exact p.elim
  | no => exact p.elim
theorem callP_resF (F : List PyData → FRes) (rs : List Sl) (δ : List Sl) : callP F rs δ = match escs rs with
  | some ds => resF (F ds) δ
  | none => .no := by
  unfold callP resF
  cases escs rs with
  | none => rfl
  | some ds => rfl
/-- a function slot's value -/
def cloM (i : Nat) : M Sl := fun δ => match δ[i]? with
  | some (.clo c ds) => .ok (.clo c ds) δ
  | _ => .no
theorem clo_at {i : Nat} {c : Clo} {ds : List PyData} (r : RS X.K Γ σ δ γ H) (h : δ[i]? = some (.clo c ds)) : σ[i]? = some (some (.ref c.f)) ∧ RS X.K Γ σ δ ((some (.ref c.f), .clo c ds) :: γ) H := by
  obtain ⟨o, h1, h2⟩ := zip_at r.len.eq h
  obtain ⟨e1, ra, kc⟩ := r.rel.each _ (List.mem_append_left _ (List.mem_of_getElem? h2))
  have e2 : o = some (.ref c.f) := e1
  subst e2
  exact ⟨h1, ⟨r.len, r.rel.push rfl ⟨rfl, ra, kc⟩⟩⟩
theorem pv_clo (i : Nat) {x : Str} {pos : Pos} (hN : X.N[i]? = some x := by rfl) (hv : Vis X.env.scope x := by first | exact Or.inl rfl | exact Or.inr (Or.inl rfl) | exact Or.inr (Or.inr rfl)) (hd : (x == ("__debug__" : Str)) = false := by decide)
    (hcd : (x == ("__classdict__" : Str)) = false := by decide) : PE X (.Name x pos) (tV X.K W (cloM i)) := PE.imp (pe_var hN hv hd hcd) fun σ H Q ⟨Γ, δ, γ, r, p⟩ => by
  unfold cloM at p
  cases h : δ[i]? with
  | none => rw [h] at p; exact p.elim
  | some s =>
    rw [h] at p
    cases s with
    | clo c ds => obtain ⟨e, r'⟩ := clo_at r h; exact ⟨_, e, p _ H r'⟩
    | _ => exact p.elim
/-- the untracked things of a function from X's entry on -/
theorem clo_here {P : Program} {w : World} {K : PySem.W.Frag} {mg : Str → Option Value} {base : Heap} {k : Nat} {c : Clo} {F : List PyData → FRes} {pins : List (Addr × Obj)} {s : Shared} (hex : X.ex = []) (ca : CloAt P w K mg base cl k X.s_0.heap X.H_0 c F) (I : Inv X pins σ H s) : CloAt P w K mg base cl k s.heap H c F := by
  have u := I.base
  rw [hex] at u
  exact ca.keep u
/-- a function run -/
theorem run_C {kc : Nat} {c : Clo} {F : List PyData → FRes} {pins : List (Addr × Obj)} {s : Shared} {us : List Value} {vs : List V} {E : XK} (ca : CloAt X.prog X.w X.K X.mg X.base cl kc s.heap H c F) (hr : Room kc X.A) (hx : PassesAt (L2.CX X.prog X.w) X σ E) (I : Inv X pins σ H s) (rv : Vals vs us) (hc : ∀ q ∈ c.cs, H q.1 = some (CodeO q.1 q.2))
    (q : spP X.K cl F (vs ++ c.ws) H Q E) : wpAny (model X.prog X.w) X.A (call (.ref c.f) us) (EP X pins σ Q) X.xe s := by
  obtain ⟨S, a, b, run⟩ := ca
  refine wpAny_call (codeAny_mono (run X.A X.stack s H us vs Q E hr I.env0 (fun p m => ⟨(a p m).1, fun o e => ⟨o.slots, e⟩⟩) hc rv q) fun r s' hq => ?_)
  cases r with
  | error e => exact hx pins H s e s' I hq
  | ok fl =>
    cases fl with
    | ret u => exact I.after hq
    | next => exact False.elim hq
    | brk => exact False.elim hq
    | cont => exact False.elim hq
end
open Classical in
/-- x(..), x a slot that holds the function c -/
noncomputable def callC (i : Nat) (c : Clo) (F : List PyData → FRes) (ms : M (List Sl)) : M Sl := fun δ => match δ[i]? with
  | some (.clo c' ds) => if c' = c then (ms δ).bind fun rs δ1 => match escs rs with
    | some es => resF (F (es ++ ds)) δ1
    | none => .no
    else .no
  | _ => .no
section
variable {X : Cx} {W : XW} {cl : Str → Value}
theorem d_callC {i kc : Nat} {c : Clo} {F : List PyData → FRes} {x : Str} {p pos : Pos} {e : Expr} {es : List Expr} {ms : M (List Sl)} (hex : X.ex = []) (ca : CloAt X.prog X.w X.K X.mg X.base cl kc X.s_0.heap X.H_0 c F) (hr : Room kc X.A) (hx : ∀ σ, PassesAt (L2.CX X.prog X.w) X σ (EW cl W σ)) (ha : PA X (e :: es) (tAs X.K W ms))
    (hN : X.N[i]? = some x := by rfl) (hv : Vis X.env.scope x := by first | exact Or.inl rfl | exact Or.inr (Or.inl rfl) | exact Or.inr (Or.inr rfl)) (hd : (x == ("__debug__" : Str)) = false := by decide)
    (hcd : (x == ("__classdict__" : Str)) = false := by decide) (he : starEach (e :: es) X.env = (false, eval e X.env) :: starEach es X.env := by rfl) (hpl : (backTo pos (starEach es X.env)).any (·.1) = false := by rfl) :
    PE X (.Call (.Name x p) (e :: es) [] pos) (tV X.K W (callC i c F ms)) := by
  refine ⟨fun pins s σ H Q I ⟨Γ, δ, γ, r, p0⟩ => ?_⟩
  unfold callC at p0
  cases h : δ[i]? with
  | none => simp only [h] at p0; exact p0.elim
  | some sl =>
    cases sl with
    | clo c' ds =>
      simp only [h] at p0
      by_cases hc : c' = c
      · rw [if_pos hc] at p0
        subst hc
        obtain ⟨hs, r1⟩ := clo_at r h
        refine wpAny_Call_Name_kw (thn ((pe_var (pos := p) hN hv hd hcd).run pins s σ H (fun v H1 => v = .ref c'.f ∧ H1 = H) I ⟨.ref c'.f, hs, rfl, rfl⟩) fun u s1 ⟨v, H1, I1, q1, q2⟩ => ?_)
        obtain ⟨ev, eH⟩ := q2
        subst ev
        rw [eH] at I1
        obtain rfl : u = Value.ref c'.f := q1
        have args : tAs X.K W ms σ H fun vs H2 => ∃ rs δ1 ds', vs.length = rs.length ∧ RS X.K Γ σ δ1 ((vs.map some).zip rs ++ ((some (.ref c'.f), .clo c' ds) :: γ)) H2 ∧ escs rs = some ds' ∧
            Post X.K W Γ σ γ (resF (F (ds' ++ ds)) δ1) fun s δ' => ∀ v H', RS X.K Γ σ δ' ((some v, s) :: γ) H' → Q v H' := by
          refine ⟨Γ, δ, _, r1, ((Post.bind p0).ext [(some (.ref c'.f), .clo c' ds)]).imp fun rs δ1 p1 vs H2 hl r2 => ?_⟩
          cases h1 : escs rs with
          | none => simp only [h1] at p1; exact p1.elim
          | some ds' => simp only [h1] at p1; exact ⟨rs, δ1, ds', hl, r2, h1, p1⟩
        have fin : ∀ (us : List Value) (s2 : Shared) (vs : List V) (H2 : Hp), Inv X pins σ H2 s2 → Vals vs us → (∃ rs δ1 ds', vs.length = rs.length ∧ RS X.K Γ σ δ1 ((vs.map some).zip rs ++ ((some (.ref c'.f), .clo c' ds) :: γ)) H2 ∧ escs rs = some ds' ∧
            Post X.K W Γ σ γ (resF (F (ds' ++ ds)) δ1) fun s δ' => ∀ v H', RS X.K Γ σ δ' ((some v, s) :: γ) H' → Q v H') → wpAny (model X.prog X.w) X.A (call (.ref c'.f) us) (EP X pins σ Q) X.xe s2 := by
          intro us s2 vs H2 I2 rv ⟨rs, δ1, ds', hl, r2, h1, p1⟩
          have ra := r2.escs hl h1
          have r3 := r2.popN
          obtain ⟨_, rc, kc⟩ := r3.rel.each _ (List.mem_append_right _ List.mem_cons_self)
          refine run_C (clo_here hex ca I2) hr (hx σ) I2 rv kc ?_
          refine ⟨_, ds' ++ ds, ⟨r3.rel.unal, fun a n => r3.rel.nb a n.1, r3.rel.tb⟩, ra.append rc, ?_⟩
          exact wants_of r3 ((p1.ext [(some (.ref c'.f), .clo c' ds)]).imp fun s δ' q v H' r' => q v H' (drop1 (γ₀ := [(some (.ref c'.f), .clo c' ds)]) r'))
        have caI : ∀ {s2 : Shared} {H2 : Hp}, Inv X pins σ H2 s2 → PySem.W.keepIn X.K (.ref c'.f) = true ∨ PySem.W.FnAt c'.f s2.heap := fun I2 => by
          obtain ⟨S, _, b, _⟩ := clo_here hex ca I2
          exact b.imp id fun z => z.2
        rcases caI I1 with hk | _
        · exact PySem.W.callWith_K (first := []) (h₀ := X.base) I1.ok.mod.kin hk (thn (ha.run pos pins s1 σ H _ I1 args) fun us s2 ⟨vs, H2, I2, rv, q⟩ => ⟨I2.kIn, fin us s2 vs H2 I2 rv q⟩) he hpl
        · by_cases hk : PySem.W.keepIn X.K (.ref c'.f) = true
          · exact PySem.W.callWith_K (first := []) (h₀ := X.base) I1.ok.mod.kin hk (thn (ha.run pos pins s1 σ H _ I1 args) fun us s2 ⟨vs, H2, I2, rv, q⟩ => ⟨I2.kIn, fin us s2 vs H2 I2 rv q⟩) he hpl
          · exact PySem.W.callWith_F (first := []) ((caI I1).resolve_left hk) (thn (ha.run pos pins s1 σ H _ I1 args) fun us s2 ⟨vs, H2, I2, rv, q⟩ => ⟨(caI I2).resolve_left hk, fin us s2 vs H2 I2 rv q⟩) he hpl
      · rw [if_neg hc] at p0; exact p0.elim
    | _ => simp only [h] at p0; exact p0.elim
/-- .. without arguments -/
theorem d_callC0 {i kc : Nat} {c : Clo} {F : List PyData → FRes} {x : Str} {p pos : Pos} (hex : X.ex = []) (ca : CloAt X.prog X.w X.K X.mg X.base cl kc X.s_0.heap X.H_0 c F) (hr : Room kc X.A) (hx : ∀ σ, PassesAt (L2.CX X.prog X.w) X σ (EW cl W σ))
    (hN : X.N[i]? = some x := by rfl) (hv : Vis X.env.scope x := by first | exact Or.inl rfl | exact Or.inr (Or.inl rfl) | exact Or.inr (Or.inr rfl)) (hd : (x == ("__debug__" : Str)) = false := by decide)
    (hcd : (x == ("__classdict__" : Str)) = false := by decide) :
    PE X (.Call (.Name x p) [] [] pos) (tV X.K W (callC i c F mNil)) := by
  refine ⟨fun pins s σ H Q I ⟨Γ, δ, γ, r, p0⟩ => ?_⟩
  unfold callC at p0
  cases h : δ[i]? with
  | none => simp only [h] at p0; exact p0.elim
  | some sl =>
    cases sl with
    | clo c' ds =>
      simp only [h] at p0
      by_cases hc : c' = c
      · rw [if_pos hc] at p0
        subst hc
        obtain ⟨hs, r1⟩ := clo_at r h
        refine wpAny_Call_Name_kw (thn ((pe_var (pos := p) hN hv hd hcd).run pins s σ H (fun v H1 => v = .ref c'.f ∧ H1 = H) I ⟨.ref c'.f, hs, rfl, rfl⟩) fun u s1 ⟨v, H1, I1, q1, q2⟩ => ?_)
        obtain ⟨ev, eH⟩ := q2
        subst ev
        rw [eH] at I1
        obtain rfl : u = Value.ref c'.f := q1
        have p1 : Post X.K W Γ σ γ (resF (F ds) δ) fun s δ' => ∀ v H', RS X.K Γ σ δ' ((some v, s) :: γ) H' → Q v H' := p0
        have fin : wpAny (model X.prog X.w) X.A (call (.ref c'.f) []) (EP X pins σ Q) X.xe s1 := by
          obtain ⟨_, rc, kc⟩ := r1.rel.each _ (List.mem_append_right _ List.mem_cons_self)
          refine run_C (vs := []) (clo_here hex ca I1) hr (hx σ) I1 .nil kc ?_
          refine ⟨_, ds, ⟨r1.rel.unal, fun a n => r1.rel.nb a n.1, r1.rel.tb⟩, rc, ?_⟩
          exact wants_of r1 ((p1.ext [(some (.ref c'.f), .clo c' ds)]).imp fun s δ' q v H' r' => q v H' (drop1 (γ₀ := [(some (.ref c'.f), .clo c' ds)]) r'))
        obtain ⟨S, _, b, _⟩ := clo_here hex ca I1
        rcases b with hk | ⟨_, hk⟩
        · exact PySem.W.callWith_K0 (first := []) I1.kIn hk fin
        · exact PySem.W.callWith_F0 (first := []) hk fin
      · rw [if_neg hc] at p0; exact p0.elim
    | _ => simp only [h] at p0; exact p0.elim
end
open Classical in
/-- g(..), functions handed on that were handed in as rs0 -/
noncomputable def callH (rs0 : List Sl) (G : List Sl → FRes) (rs : List Sl) : M Sl := fun δ => match escH rs with
  | some ts => if ∀ (i : Nat) (c : Clo) (ds : List PyData), ts[i]? = some (Sl.clo c ds) → rs0[i]? = some (Sl.clo c ds) then resF (G ts) δ else .no
  | none => .no
section
variable {X : Cx} {W : XW} {cl : Str → Value}
/-- a def that is handed functions, run -/
theorem run_H {kc k : Nat} {g : Addr} {Fs : List (List PyData → FRes)} {G : List Sl → FRes} {pins : List (Addr × Obj)} {Γ : Gm} {σ : L2.St} {δ : List Sl} {γ : List Ent} {H : Hp} {s : Shared} {us : List Value} {vs : List V} {rs ts : List Sl} {Q : VK} (HG : HOk X.prog X.w X.K X.mg X.base cl kc k g Fs G) (hr : Room k X.A) (hx : PassesAt (L2.CX X.prog X.w) X σ (EW cl W σ))
    (I : Inv X pins σ H s) (rv : Vals vs us) (r : RS X.K Γ σ δ ((vs.map some).zip rs ++ γ) H) (hl : vs.length = rs.length) (he : escH rs = some ts) (ca : CloAll X.prog X.w X.K X.mg X.base cl kc s.heap H Fs ts)
    (p : Post X.K W Γ σ γ (resF (G ts) δ) fun s δ' => ∀ v H', RS X.K Γ σ δ' ((some v, s) :: γ) H' → Q v H') : wpAny (model X.prog X.w) X.A (call (.ref g) us) (EP X pins σ Q) X.xe s := by
  have ao := r.escH hl he
  have r3 := r.popN
  refine wpAny_call (codeAny_mono (HG.run X.A X.stack s H us vs ts _ Q (EW cl W σ) hr I.env0 rv ⟨r3.rel.unal, fun a n => r3.rel.nb a n.1, r3.rel.tb⟩ ao ca (wants_of r3 p)) fun r s' hq => ?_)
  cases r with
  | error e => exact hx pins H s e s' I hq
  | ok fl =>
    cases fl with
    | ret u => exact I.after hq
    | next => exact False.elim hq
    | brk => exact False.elim hq
    | cont => exact False.elim hq
theorem d_callH {kc k : Nat} {g : Addr} {Fs : List (List PyData → FRes)} {G : List Sl → FRes} {rs0 : List Sl} {x : Str} {p pos : Pos} {e : Expr} {es : List Expr} {ms : M (List Sl)} (HG : HOk X.prog X.w X.K X.mg X.base cl kc k g Fs G) (hex : X.ex = []) (ca : CloAll X.prog X.w X.K X.mg X.base cl kc X.s_0.heap X.H_0 Fs rs0) (hr : Room k X.A) (hg : Gl X x) (hm : X.mg x = some (.ref g)) (hk : PySem.W.keepIn X.K (.ref g) = true)
    (hx : ∀ σ, PassesAt (L2.CX X.prog X.w) X σ (EW cl W σ)) (ha : PA X (e :: es) (tAs X.K W ms))
    (hdb : (x == ("__debug__" : Str)) = false := by decide) (he : starEach (e :: es) X.env = (false, eval e X.env) :: starEach es X.env := by rfl) (hpl : (backTo pos (starEach es X.env)).any (·.1) = false := by rfl) :
    PE X (.Call (.Name x p) (e :: es) [] pos) (tV X.K W (ms >>= callH rs0 G)) := by
  refine ⟨fun pins s σ H Q I ⟨Γ, δ, γ, r, p0⟩ => ?_⟩
  refine wpAny_Call_Name_kw (ld_glob I hg hm ?_ hdb)
  refine PySem.W.callWith_K (first := []) (h₀ := X.base) I.ok.mod.kin hk (thn (ha.run pos pins s σ H (fun vs H2 => ∃ rs δ1 ts, vs.length = rs.length ∧ RS X.K Γ σ δ1 ((vs.map some).zip rs ++ γ) H2 ∧ escH rs = some ts ∧ (∀ (i : Nat) (c : Clo) (ds : List PyData), ts[i]? = some (Sl.clo c ds) → rs0[i]? = some (Sl.clo c ds)) ∧
      Post X.K W Γ σ γ (resF (G ts) δ1) fun s δ' => ∀ v H', RS X.K Γ σ δ' ((some v, s) :: γ) H' → Q v H') I ⟨Γ, δ, γ, r, (Post.bind p0).imp fun rs δ1 p1 vs H2 hl r2 => ?_⟩) fun us s2 ⟨vs, H2, I2, rv, rs, δ1, ts, hl, r2, h1, hc, p1⟩ => ⟨I2.kIn, ?_⟩) he hpl
  · unfold callH at p1
    cases h1 : escH rs with
    | none => simp only [h1] at p1; exact p1.elim
    | some ts =>
      simp only [h1] at p1
      by_cases hc : ∀ (i : Nat) (c : Clo) (ds : List PyData), ts[i]? = some (Sl.clo c ds) → rs0[i]? = some (Sl.clo c ds)
      · rw [if_pos hc] at p1; exact ⟨rs, δ1, ts, hl, r2, h1, hc, p1⟩
      · rw [if_neg hc] at p1; exact p1.elim
  · have u := I2.base
    rw [hex] at u
    exact run_H HG hr (hx σ) I2 rv r2 hl h1 (fun i c ds e => (ca.keep u) i c ds (hc i c ds e)) p1
end
end DL

set_option Elab.async false
set_option linter.all false
set_option maxRecDepth 100000
set_option maxHeartbeats 1000000
namespace DL
open PySem PySem.Spec PyProof.Rows L2 LamX NdefX
/-! ### lambdas made -/
section
variable {X : Cx} {pins : List (Addr × Obj)} {σ : L2.St} {H : Hp} {s : Shared}
theorem tabS_keep {H' : Hp} {P : Addr} {q : Str} (t : TabS H P q) (h1 : ∀ ps, H P = some (.tbl ps) → H' P = some (.tbl ps)) (h2 : ∀ c, H c = some (CodeO c q) → H' c = some (CodeO c q)) : TabS H' P q := by
  obtain ⟨ps, a, b, c⟩ := t
  refine ⟨ps, h1 _ a, b, fun pos cv e => ?_⟩
  obtain ⟨d, e1, e2⟩ := c pos cv e
  exact ⟨d, e1, h2 d e2⟩
/-- a lambda of the def x: the function is new, its code object new or known -/
theorem lam_new {x : Str} {params : Arguments} {body : Expr} {scope : Scope} {pos : Pos} {E : Value → Shared → Prop} {Q : Value → Shared → Prop} (I : Inv X pins σ H s) (tb : Tb X.K H) (mx : x ∈ lamDefs) (hz : isTab X.K x = true) (TB : TabB X.base X.mg (codA X.K x) (tabA X.K x)) (hcode : X.env.code = .ref (codA X.K x))
    (hq : X.env.qual ++ "<lambda>" = lamQ x) (hu : ∀ y ∈ lamDefs, isTab X.K y = true → tabA X.K y = tabA X.K x → y = x) (hdef : defaultsOf params X.env = ([], [])) (hfree : ∀ y ∈ scope.names, y.2 = .free → ∃ c, X.env.cells.lookup y.1 = some c)
    (h : ∀ (f c' : Addr) (pm ctv : Value) (H1 : Hp) (s' : Shared), Inv X pins σ H1 s' → SameD X.K H H1 → s'.heap.get? f = some (PySem.W.kla_obj "<lambda>" (lamQ x) params body scope (cloFrom X.env.cells scope.names []) pm c' ctv) → H1 f = none → H1 c' = some (CodeO c' (lamQ x)) → Q (.ref f) s') :
    wpAny (model X.prog X.w) X.A (eval (.Lambda params body scope pos) X.env) Q E s := by
  obtain ⟨ps, hP, ht, ha⟩ := tb x mx hz
  have bP : s.heap.BuiltinsAt X.mg (tabA X.K x) := TB.bm.keeps I.bk
  have hP' : s.heap.get? (tabA X.K x) = some { cls := .none, data := .fields ps } := I.hok _ _ hP
  refine PySem.W.kla_eval hdef ?_
  rw [hq]
  cases hc : codeAmong pos ps.toList with
  | some cv =>
    obtain ⟨c', e, hco⟩ := ha pos cv hc
    subst e
    refine PySem.W.kla_makeFunctionHit (mg := X.mg) (c := codA X.K x) (P := tabA X.K x) (ps := ps) (closure_ok hfree) I.ok.glob (I.mod.glob.keeps I.bk) hcode (TB.code.keeps I.bk) hP' ht hc bP fun ctv h' tk hx hsz => ?_
    exact h h'.objs.size c' _ ctv H _ (I.kept fun b o e => Heap.get?_push_of_some _ (hx b o e)) ⟨fun _ _ _ e => e, fun _ e => e, tb⟩ (Heap.get?_push_size _ rfl) (I.hok.fresh hsz) hco
  | none =>
    refine PySem.W.kla_makeFunction (mg := X.mg) (c := codA X.K x) (P := tabA X.K x) (ps := ps) (closure_ok hfree) I.ok.glob (I.mod.glob.keeps I.bk) hcode (TB.code.keeps I.bk) hP' ht hc TB.gP bP fun c' ctv h' tk hx hge hlt hrec htb => ?_
    obtain ⟨c2, oc, vs, t, e2, hoc, hd, hv⟩ := hrec
    cases e2
    have hsz : s.heap.objs.size ≤ h'.objs.size := Nat.le_trans hge (Nat.le_of_lt hlt)
    have nC : H c' = none := I.hok.fresh hge
    have nPc : tabA X.K x ≠ c' := ne_of_none hP nC
    have eL : (ps ++ #[rawInt pos.line, rawInt pos.col, .ref c']).toList = ps.toList ++ [rawInt pos.line, rawInt pos.col, .ref c'] := by simp
    have I1 := inv_table (t' := tk) (more := #[rawInt pos.line, rawInt pos.col, .ref c']) (h' := h'.push (PySem.W.kla_obj "<lambda>" (lamQ x) params body scope (cloFrom X.env.cells scope.names []) ((X.mg "__name__").getD .none) c' ctv)) I hP
      (fun b o hb e => Heap.get?_push_of_some _ (hx b o hb e)) (Heap.get?_push_of_some _ htb) hge ⟨oc, vs, t, Heap.get?_push_of_some _ hoc, hd, hv⟩
    have off : ∀ b, b ≠ tabA X.K x → b ≠ c' → upd (upd H (tabA X.K x) (.tbl (ps ++ #[rawInt pos.line, rawInt pos.col, .ref c']))) c' (CodeO c' (lamQ x)) b = H b := fun b h1 h2 => by rw [upd_ne h2, upd_ne h1]
    have onP : upd (upd H (tabA X.K x) (.tbl (ps ++ #[rawInt pos.line, rawInt pos.col, .ref c']))) c' (CodeO c' (lamQ x)) (tabA X.K x) = some (.tbl (ps ++ #[rawInt pos.line, rawInt pos.col, .ref c'])) := by rw [upd_ne nPc, upd_same]
    have codes : ∀ c q, H c = some (CodeO c q) → upd (upd H (tabA X.K x) (.tbl (ps ++ #[rawInt pos.line, rawInt pos.col, .ref c']))) c' (CodeO c' (lamQ x)) c = some (CodeO c q) := fun c q e => by
      rw [off c (fun z => by rw [z, hP] at e; cases e) (ne_of_none e nC)]
      exact e
    refine h h'.objs.size c' ((X.mg "__name__").getD .none) ctv _ _ I1 ⟨fun b o n e => ?_, fun b e => ?_, fun y my hy => ?_⟩ (Heap.get?_push_size _ rfl) ?_ upd_same
    · rw [off b (n x mx hz) (ne_of_none e nC)]
      exact e
    · by_cases h1 : b = c'
      · rw [h1, upd_same] at e; cases e
      · by_cases h2 : b = tabA X.K x
        · rw [h2, onP] at e; cases e
        · rw [off b h2 h1] at e; exact e
    · by_cases hy2 : tabA X.K y = tabA X.K x
      · obtain rfl := hu y my hy hy2
        refine ⟨_, onP, by rw [eL]; exact PySem.TriplesOk_snoc _ _ _ _ ht, fun p' cv hcv => ?_⟩
        rw [eL] at hcv
        rcases among_app _ ht hcv with z | z
        · obtain ⟨c0, e1, e2⟩ := ha p' cv z
          exact ⟨c0, e1, codes c0 _ e2⟩
        · exact ⟨c', z, upd_same⟩
      · refine tabS_keep (tb y my hy) (fun ps e => ?_) fun c e => codes c _ e
        rw [off _ hy2 (ne_of_none e nC)]
        exact e
    · rw [off _ (Nat.ne_of_gt (Nat.lt_of_lt_of_le (Heap.lt_size hP') hsz)) (Nat.ne_of_gt hlt)]
      exact I.hok.fresh hsz
end
/-! ### lambdas run -/
/-- what the captured cells hold is kept -/
theorem cells_keep {cl : List (Str × Addr)} {fr : List Str} {ws : List (Option V)} {h h' : Heap} {H H' : Hp} (c : CellsAt cl fr ws h H) (k : ∀ y b, cl.lookup y = some b → H' b = none ∧ ∀ o, h.get? b = some o → ∃ sl, h'.get? b = some { o with slots := sl }) : CellsAt cl fr ws h' H' := by
  have cell : ∀ y a v, cl.lookup y = some a → h.IsCell a v → h'.IsCell a v := fun y a v e ⟨o, ho, hd⟩ => by
    obtain ⟨sl, e2⟩ := (k y a e).2 o ho
    exact ⟨_, e2, hd⟩
  refine ⟨c.len, fun y a e => ⟨(k y a e).1, ?_⟩, c.inj, fun i y e => ?_⟩
  · obtain ⟨_, v, q⟩ := c.all y a e
    exact ⟨v, cell y a v e q⟩
  · obtain ⟨a, e1, q⟩ := c.has i y e
    refine ⟨a, e1, fun v hv => ?_⟩
    obtain ⟨u, r, z⟩ := q v hv
    exact ⟨u, r, cell y a _ e1 z⟩
theorem startF_start {N : List Str} {vs ws : List V} : startF N vs (ws.map some) = L2.start N (vs ++ ws) := by
  unfold startF L2.start
  rw [List.map_append, List.append_assoc, List.length_map, List.length_append, Nat.sub_sub]
theorem tV_of {K : PySem.W.Frag} {W : XW} {m : M Sl} {σ : L2.St} {H : Hp} {D : Ends} (h : tS K W (retS m) D σ H) : tV K W m σ H D.rt := by
  obtain ⟨Γ, δ, γ, r, na, p⟩ := h
  exact ⟨Γ, δ, γ, r, (toS_post p).imp fun x δ' p' v H' r' => p' σ v H' r'⟩
section
variable {P : Program} {w : World} {K : PySem.W.Frag} {mg : Str → Option Value} {base : Heap} {clv : Str → Value} {k : Nat}
/-- the lambda's words -/
abbrev lamF (q : Str) (params : Arguments) (scope : Scope) (cl : List (Str × Addr)) (c' : Addr) : NF := ⟨"<lambda>", q, params, [], scope, cl, c'⟩
theorem clo_lam {N ps fr : List Str} {q : Str} {params : Arguments} {lbody : Expr} {scope : Scope} {cl : List (Str × Addr)} {c' f : Addr} {pm ctv : Value} {m : M Sl} {F : List PyData → FRes} {h : Heap} {H : Hp} {ws : List V} (S : NScope N ps fr scope)
    (hb : ∀ us : List Value, us.length = ps.length → bindArgs (PySem.W.kla_fn "<lambda>" q params lbody scope cl pm (.ref c') ctv) ⟨us, []⟩ = pure (ps.zip us)) (hw : ws.length = fr.length) (hF : ∀ ds, F ds ≠ .no → ds.length = ps.length + fr.length ∧ F ds = runP N.length (retS m) ds)
    (hbody : ∀ (A : Around) (outer : List Env) (s : Shared) (H : Hp) (E : XK), Room k (A.deeper (envF (lamF q params scope cl c') f s.heap.objs.size)) → PE (ncx (L2.CX P w) P w K mg base N (lamF q params scope cl c') f A outer s H E) lbody (tV K (WE clv E) m))
    (hf : h.get? f = some (PySem.W.kla_obj "<lambda>" q params lbody scope cl pm c' ctv)) (hn : H f = none) (C : CellsAt cl fr (ws.map some) h H) : CloAt P w K mg base clv (k + 1) h H ⟨f, ws, [(c', q)]⟩ F := by
  have mem : ∀ y b, cl.lookup y = some b → b ∈ f :: ((cl.map (·.1)).filterMap fun y => cl.lookup y) := fun y b e => List.mem_cons_of_mem _ (List.mem_filterMap.mpr ⟨y, List.mem_map.mpr ⟨(y, b), PySem.mem_of_lookup e, rfl⟩, e⟩)
  refine ⟨f :: ((cl.map (·.1)).filterMap fun y => cl.lookup y), fun b m => ?_, .inr ⟨List.mem_cons_self, ⟨_, _, _, _, hf⟩⟩, fun A outer s H' us vs Q E hr e0 hS hc rv sp => ?_⟩
  · rcases List.mem_cons.mp m with rfl | m
    · exact ⟨hn, _, hf⟩
    · obtain ⟨y, _, e⟩ := List.mem_filterMap.mp m
      obtain ⟨z, v, o, ho, _⟩ := C.all y b e
      exact ⟨z, o, ho⟩
  · obtain ⟨B, ds, hB, ra, wq⟩ := sp
    have hn2 : F ds ≠ .no := fun z => by rw [z] at wq; exact wq
    obtain ⟨hl, he⟩ := hF ds hn2
    have hlv : vs.length = ps.length := by
      have := ra.length
      have z : (vs ++ ws).length = ds.length := this
      rw [List.length_append] at z
      omega
    obtain ⟨sl, ef⟩ := (hS f List.mem_cons_self).2 _ hf
    obtain ⟨⟨oc, vs0, t, hoc, hdc, hvc⟩, _, _⟩ := e0.hok c' _ (hc (c', q) List.mem_cons_self)
    have lim : s.heap.NoLimit := e0.mod.nolimit.keeps fun b o e => (e0.bs b o e).1
    have C' := cells_keep C fun y b e => hS b (mem y b e)
    refine PySem.W.kla_callFunE hr.depth ef rfl S.co S.gen rfl ⟨c', oc, vs0, t, rfl, hoc, hdc, hvc⟩ ?_
    rw [hb us (by rw [← rv.length]; exact hlv)]
    refine wpAny_pure (wpAny_newFunctionEnv S.nocell (fun ⟨n, _⟩ hy => S.par n (List.of_mem_zip hy).1) (fun h₁ hns hsb => ⟨lim.fresh _ hsb, ?_⟩) S.kind)
    show codeAny _ _ (.expr lbody (envF (lamF q params scope cl c') f s.heap.objs.size)) _ _
    have kp : ∀ b o, s.heap.get? b = some o → h₁.get? b = some o := fun b o e => hsb.extBut b o (Nat.ne_of_lt (Heap.lt_size e)) (Heap.get?_push_of_some _ e)
    have I : Inv (ncx (L2.CX P w) P w K mg base N (lamF q params scope cl c') f A outer s H' E) [] (startF N vs (ws.map some)) H' { s with heap := h₁, toks := s.toks + (ps.zip us).length } := inv_startN S hr.hd e0 hlv rv C' hns kp
    have ht : tV K (WE clv E) m (startF N vs (ws.map some)) H' Q := by
      rw [startF_start]
      refine tV_of (D := { nx := fun _ H' => Q .non H', rt := Q }) (entry_S (B := B) hB (AO.of ra) ?_)
      have e2 : runS N.length (retS m) (ds.map .sh) = F ds := he.symm
      rw [e2]
      exact wq
    refine PySem.W.kla_codeExpr (wpAny_mono ((hbody A outer s H' E (hr.deeper _)).run [] _ _ H' Q I ht) (fun v s' hq => ?_) fun e s' hq => hq)
    obtain ⟨w', H'', J, rv', q⟩ := hq
    exact ⟨w', H'', J.os, J.bare, J.base, J.hok, rv', q⟩
end
end DL

set_option Elab.async false
set_option linter.all false
set_option maxRecDepth 100000
set_option maxHeartbeats 1000000
namespace DL
open PySem PySem.Spec PyProof.Rows L2 LamX NdefX
/-! ### a lambda handed to a def -/
@[reducible] def capsM : List Nat → M (List Sl)
  | [] => mNil
  | j :: r => mCons (varM j) (capsM r)
section
variable {K : PySem.W.Frag} {W : XW} {Γ : Gm} {σ : L2.St} {H : Hp}
theorem Post.cons {α : Type} {m : M Sl} {ms : M (List Sl)} {f : List Sl → M α} {δ : List Sl} {γ : List Ent} {k : α → List Sl → Prop} (h : Post K W Γ σ γ ((mCons m ms >>= f) δ) k) : Post K W Γ σ γ (m δ) fun x δ1 => Post K W Γ σ γ (ms δ1) fun xs δ2 => Post K W Γ σ γ (f (x :: xs) δ2) k :=
  (Post.bind (Post.bind h)).imp fun x δ1 p => (Post.bind p).imp fun xs δ2 q => q
/-- the captured slots, read -/
theorem caps_read {k : List Sl → List Sl → Prop} : ∀ {js : List Nat} {δ : List Sl} {γ : List Ent}, RS K Γ σ δ γ H → Post K W Γ σ γ (capsM js δ) k → ∃ (ws : List V) (rs : List Sl) (δ2 : List Sl), js.map (slotAt σ) = ws.map some ∧ ws.length = rs.length ∧ RS K Γ σ δ2 ((ws.map some).zip rs ++ γ) H ∧ k rs δ2
  | [], δ, γ, r, p => ⟨[], [], δ, rfl, rfl, r, p⟩
  | j :: js, δ, γ, r, p => by
    have p1 := (Post.bind p).imp fun x δ1 q => Post.bind q
    have rd : ∀ {v : V} {s : Sl} {δ1 : List Sl}, σ[j]? = some (some v) → RS K Γ σ δ1 ((some v, s) :: γ) H → Post K W Γ σ γ (capsM js δ1) (fun xs δ2 => k (s :: xs) δ2) → ∃ (ws : List V) (rs : List Sl) (δ2 : List Sl), (j :: js).map (slotAt σ) = ws.map some ∧ ws.length = rs.length ∧ RS K Γ σ δ2 ((ws.map some).zip rs ++ γ) H ∧ k rs δ2 := fun {v s δ1} e r1 q => by
      obtain ⟨ws, rs, δ2, e1, hl, r2, q2⟩ := caps_read r1 (q.ext [(some v, s)])
      refine ⟨v :: ws, s :: rs, δ2, ?_, by rw [List.length_cons, List.length_cons, hl], r2.perm List.perm_middle, q2⟩
      rw [List.map_cons, List.map_cons, e1]
      congr 1
      unfold NdefX.slotAt
      rw [e]
    unfold varM at p1
    cases h : δ[j]? with
    | none => simp only [h] at p1; exact p1.elim
    | some s =>
      cases s with
      | sh d => simp only [h] at p1; obtain ⟨v, e, r1⟩ := sh_at r h; exact rd e r1 p1
      | ow d => simp only [h] at p1; obtain ⟨v, e, r1⟩ := ow_at r h; exact rd e r1 p1
      | raw v => simp only [h] at p1; obtain ⟨e, r1⟩ := raw_at r h; exact rd e r1 p1
      | _ => simp only [h] at p1; exact p1.elim
end
/-- what is known of a lambda in the def x: its words, its captured slots, its body's answer -/
structure LamK (X : Cx) (clv : Str → Value) (kc : Nat) (x : Str) (lparams : Arguments) (lbody : Expr) (lscope : Scope) (lps fr : List Str) (js : List Nat) (F : List PyData → FRes) : Prop where
  mx : x ∈ lamDefs
  hz : isTab X.K x = true
  TB : TabB X.base X.mg (codA X.K x) (tabA X.K x)
  hcode : X.env.code = .ref (codA X.K x)
  hq : X.env.qual ++ "<lambda>" = lamQ x
  hu : ∀ y ∈ lamDefs, isTab X.K y = true → tabA X.K y = tabA X.K x → y = x
  hdef : defaultsOf lparams X.env = ([], [])
  hfree : ∀ y ∈ lscope.names, y.2 = .free → X.env.scope.names.lookup y.1 = some .cell ∨ X.env.scope.names.lookup y.1 = some .free
  hfr : ∀ y ∈ fr, (y, NameKind.free) ∈ lscope.names
  hjs : js.map (fun j => X.N[j]?) = fr.map some
  clo : ∀ (cl : List (Str × Addr)) (c' f : Addr) (pm ctv : Value) (h : Heap) (H : Hp) (ws : List V), ws.length = fr.length → h.get? f = some (PySem.W.kla_obj "<lambda>" (lamQ x) lparams lbody lscope cl pm c' ctv) → H f = none → CellsAt cl fr (ws.map some) h H → CloAt X.prog X.w X.K X.mg X.base clv kc h H ⟨f, ws, [(c', lamQ x)]⟩ F
section
variable {X : Cx} {W : XW} {cl : Str → Value} {kc k : Nat} {g : Addr} {Gf : List Sl → FRes} {G1 : List PyData → FRes} {x : Str} {lparams : Arguments} {lbody : Expr} {lscope : Scope} {lps fr : List Str} {js : List Nat} {F : List PyData → FRes}
theorem escH_sh : ∀ {rs : List Sl} {ds : List PyData}, escs rs = some ds → ∀ (ts us : List Sl), escH ts = some us → escH (rs ++ ts) = some (ds.map .sh ++ us)
  | [], ds, h, ts, us, ht => by cases h; exact ht
  | s :: rs, ds, h, ts, us, ht => by
    unfold escs at h
    cases h1 : esc s with
    | none => simp only [h1] at h; cases h
    | some d =>
      cases h2 : escs rs with
      | none => simp only [h1, h2] at h; cases h
      | some ds' =>
        simp only [h1, h2] at h
        cases h
        have e1 : escH1 s = some (.sh d) := by cases s <;> cases h1 <;> rfl
        show (match escH1 s, escH (rs ++ ts) with
          | some a, some b => some (a :: b)
          | _, _ => none) = _
        rw [e1, escH_sh h2 ts us ht]
        rfl
theorem escs_app : ∀ {a b : List Sl} {ds : List PyData}, escs (a ++ b) = some ds → ∃ es fs, escs a = some es ∧ escs b = some fs ∧ ds = es ++ fs
  | [], b, ds, h => ⟨[], ds, rfl, h, rfl⟩
  | s :: a, b, ds, h => by
    have h' : (match esc s, escs (a ++ b) with
      | some d, some ds => some (d :: ds)
      | _, _ => none) = some ds := h
    cases h1 : esc s with
    | none => simp only [h1] at h'; cases h'
    | some d =>
      cases h2 : escs (a ++ b) with
      | none => simp only [h1, h2] at h'; cases h'
      | some ds' =>
        simp only [h1, h2] at h'
        cases h'
        obtain ⟨es, fs, e1, e2, e3⟩ := escs_app h2
        refine ⟨d :: es, fs, ?_, e2, by rw [e3]; rfl⟩
        show (match esc s, escs a with
          | some d, some ds => some (d :: ds)
          | _, _ => none) = _
        rw [h1, e1]
theorem vals_app : ∀ {a b : List V} {c d : List Value}, Vals a c → Vals b d → Vals (a ++ b) (c ++ d)
  | _, _, _, _, .nil, h => h
  | _, _, _, _, .cons r q, h => .cons r (vals_app q h)
theorem vals_refs : ∀ l : List (Addr × (List PyData → FRes)), Vals (l.map fun q => V.ref q.1) (l.map fun q => Value.ref q.1)
  | [] => .nil
  | q :: l => .cons rfl (vals_refs l)
/-- the lambda is made and the def called: pre the values ahead of it, post the defs behind it -/
theorem core_L {pins : List (Addr × Obj)} {Γ : Gm} {σ : L2.St} {δ : List Sl} {γ : List Ent} {H : Hp} {s : Shared} {lpos : Pos} {Q : VK} {pre ws : List V} {prs rs : List Sl} {upre : List Value} {ds : List PyData} {post : List (Addr × (List PyData → FRes))} {Fd : List PyData → FRes} (L : LamK X cl kc x lparams lbody lscope lps fr js F)
    (HG : HOk X.prog X.w X.K X.mg X.base cl kc k g (prs.map (fun _ => Fd) ++ F :: post.map (·.2)) Gf) (hr : Room k X.A) (hx : PassesAt (L2.CX X.prog X.w) X σ (EW cl W σ)) (hpost : ∀ q ∈ post, ∀ (h : Heap) (H : Hp), CloAt X.prog X.w X.K X.mg X.base cl kc h H ⟨q.1, [], []⟩ q.2)
    (hG : ∀ c es fs, es.length = prs.length → G1 (es ++ fs) ≠ .no → Gf (es.map .sh ++ Sl.clo c fs :: post.map fun q => Sl.clo ⟨q.1, [], []⟩ []) = G1 (es ++ fs))
    (I : Inv X pins σ H s) (rv : Vals pre upre) (hw : js.map (slotAt σ) = ws.map some) (hl1 : ws.length = rs.length) (hl2 : pre.length = prs.length) (r : RS X.K Γ σ δ ((ws.map some).zip rs ++ ((pre.map some).zip prs ++ γ)) H) (he : escs (prs ++ rs) = some ds)
    (p : Post X.K W Γ σ γ (resF (G1 ds) δ) fun s δ' => ∀ v H', RS X.K Γ σ δ' ((some v, s) :: γ) H' → Q v H') :
    ∀ (K' : Value → Shared → Prop), (∀ (f : Addr) (s2 : Shared), (∃ H2, Inv X pins σ H2 s2) → wpAny (model X.prog X.w) X.A (call (.ref g) (upre ++ .ref f :: post.map fun q => Value.ref q.1)) (EP X pins σ Q) X.xe s2 → K' (.ref f) s2) →
      wpAny (model X.prog X.w) X.A (eval (.Lambda lparams lbody lscope lpos) X.env) K' X.xe s := by
  intro K' hK
  have hfr : ∀ y ∈ lscope.names, y.2 = .free → ∃ c, X.env.cells.lookup y.1 = some c := fun y hy e => (L.hfree y hy e).elim (fun z => I.ok.has _ (.inl z)) fun z => I.ok.has _ (.inr z)
  refine lam_new I r.rel.tb L.mx L.hz L.TB L.hcode L.hq L.hu L.hdef hfr fun f c' pm ctv H1 s1 I1 sD hf hn hco => hK f s1 ⟨H1, I1⟩ ?_
  obtain ⟨es, fs, e1, e2, rfl⟩ := escs_app he
  have r1 := r.sameD sD
  have cp : Caps X (cloFrom X.env.cells lscope.names []) fr js := Caps.made I1.ok L.hfree L.hfr L.hjs
  have C := cells_of I1 cp
  rw [hw] at C
  have hwl : ws.length = fr.length := by
    have h1 := congrArg List.length hw
    have h2 := congrArg List.length L.hjs
    simp only [List.length_map] at h1 h2
    omega
  have ca := L.clo _ c' f pm ctv s1.heap H1 ws hwl hf hn C
  have ra := r1.escs hl1 e2
  have r2 := r1.popN
  have r3 : RS X.K Γ σ δ ((some (.ref f), .clo ⟨f, ws, [(c', lamQ x)]⟩ fs) :: ((pre.map some).zip prs ++ γ)) H1 := ⟨r2.len, r2.rel.push rfl ⟨rfl, ra, fun q m => by rcases List.mem_cons.mp m with rfl | m; exact hco; cases m⟩⟩
  have posts : ∀ (l : List (Addr × (List PyData → FRes))) {γ' : List Ent}, RS X.K Γ σ δ γ' H1 → RS X.K Γ σ δ (((l.map fun q => V.ref q.1).map some).zip (l.map fun q => Sl.clo ⟨q.1, [], []⟩ []) ++ γ') H1 := by
    intro l
    induction l with
    | nil => exact fun r => r
    | cons q l ih =>
      intro γ' r
      have z := ih r
      exact ⟨z.len, z.rel.push rfl ⟨rfl, .nil, fun q m => nomatch m⟩⟩
  have r4 := posts post r3
  have r5 : RS X.K Γ σ δ (((pre ++ V.ref f :: post.map fun q => V.ref q.1).map some).zip (prs ++ Sl.clo ⟨f, ws, [(c', lamQ x)]⟩ fs :: post.map fun q => Sl.clo ⟨q.1, [], []⟩ []) ++ γ) H1 := by
    have hz : ((pre ++ V.ref f :: post.map fun q => V.ref q.1).map some).zip (prs ++ Sl.clo ⟨f, ws, [(c', lamQ x)]⟩ fs :: post.map fun q => Sl.clo ⟨q.1, [], []⟩ []) = (pre.map some).zip prs ++ ((some (V.ref f), Sl.clo ⟨f, ws, [(c', lamQ x)]⟩ fs) :: ((post.map fun q => V.ref q.1).map some).zip (post.map fun q => Sl.clo ⟨q.1, [], []⟩ [])) := by
      rw [List.map_append, List.zip_append (by rw [List.length_map]; exact hl2)]
      rfl
    rw [hz]
    refine r4.perm ?_
    simp only [List.append_assoc, List.cons_append]
    exact (List.perm_middle.trans (List.Perm.cons _ (List.perm_append_comm_assoc _ _ _))).trans List.perm_middle.symm
  have escP : ∀ l : List (Addr × (List PyData → FRes)), escH (l.map fun q => Sl.clo ⟨q.1, [], []⟩ []) = some (l.map fun q => Sl.clo ⟨q.1, [], []⟩ []) := by
    intro l
    induction l with
    | nil => rfl
    | cons q l ih =>
      show (match some (Sl.clo ⟨q.1, [], []⟩ []), escH (l.map fun q => Sl.clo ⟨q.1, [], []⟩ []) with
        | some a, some b => some (a :: b)
        | _, _ => none) = _
      rw [ih]
      rfl
  have hes := escH_sh e1 (Sl.clo ⟨f, ws, [(c', lamQ x)]⟩ fs :: post.map fun q => Sl.clo ⟨q.1, [], []⟩ []) _ (by
    show (match some (Sl.clo ⟨f, ws, [(c', lamQ x)]⟩ fs), escH (post.map fun q => Sl.clo ⟨q.1, [], []⟩ []) with
      | some a, some b => some (a :: b)
      | _, _ => none) = some (Sl.clo ⟨f, ws, [(c', lamQ x)]⟩ fs :: post.map fun q => Sl.clo ⟨q.1, [], []⟩ [])
    rw [escP post])
  have hel : es.length = prs.length := by
    have := (r2.escs hl2 e1).length
    omega
  refine run_H HG hr hx I1 (vals_app rv (.cons (show L2.RelV (V.ref f) (Value.ref f) from rfl) (vals_refs post))) r5 (by simp [hl2]) hes (fun i c ds e => ?_) (by rw [hG _ es fs hel fun z => by rw [z] at p; exact p]; exact p)
  by_cases h1 : i < es.length
  · rw [List.getElem?_append_left (by rw [List.length_map]; exact h1), List.getElem?_map] at e
    cases q : es[i]? with
    | none => rw [q] at e; cases e
    | some d => rw [q] at e; cases e
  · have h1' : es.length ≤ i := by omega
    rw [List.getElem?_append_right (by rw [List.length_map]; exact h1'), List.length_map] at e
    rw [List.getElem?_append_right (by rw [List.length_map]; omega), List.length_map, ← hel]
    cases hi : i - es.length with
    | zero =>
      rw [hi] at e
      cases e
      exact ⟨F, rfl, ca⟩
    | succ n =>
      rw [hi, List.getElem?_cons_succ, List.getElem?_map] at e
      rw [List.getElem?_cons_succ, List.getElem?_map]
      cases q : post[n]? with
      | none => rw [q] at e; cases e
      | some y =>
        rw [q] at e
        cases e
        exact ⟨y.2, rfl, hpost y (List.mem_of_getElem? q) _ _⟩
end
end DL

set_option Elab.async false
set_option linter.all false
set_option maxRecDepth 100000
set_option maxHeartbeats 1000000
namespace DL
open PySem PySem.Spec PyProof.Rows L2 LamX NdefX
/-! ### calls with a lambda among the arguments -/
section
variable {X : Cx} {W : XW} {cl : Str → Value} {kc k : Nat} {g : Addr} {Gf : List Sl → FRes} {G1 : List PyData → FRes} {x y : Str} {lparams : Arguments} {lbody : Expr} {lscope : Scope} {lps fr : List Str} {js : List Nat} {F Fd : List PyData → FRes} {lpos p pos : Pos}
/-- g(lambda) -/
theorem d_callL0 (L : LamK X cl kc x lparams lbody lscope lps fr js F) (HG : HOk X.prog X.w X.K X.mg X.base cl kc k g [F] Gf) (hr : Room k X.A) (hg : Gl X y) (hm : X.mg y = some (.ref g)) (hk : PySem.W.keepIn X.K (.ref g) = true) (hx : ∀ σ, PassesAt (L2.CX X.prog X.w) X σ (EW cl W σ))
    (hG : ∀ c fs, G1 fs ≠ .no → Gf [Sl.clo c fs] = G1 fs) (hdb : (y == ("__debug__" : Str)) = false := by decide) :
    PE X (.Call (.Name y p) [.Lambda lparams lbody lscope lpos] [] pos) (tV X.K W (capsM js >>= callP G1)) := by
  refine ⟨fun pins s σ H Q I ⟨Γ, δ, γ, r, p0⟩ => ?_⟩
  refine wpAny_Call_Name_kw (ld_glob I hg hm ?_ hdb)
  refine PySem.W.callWith_K (first := []) (h₀ := X.base) I.ok.mod.kin hk ?_ (by rfl) (by rfl)
  show wpAny _ _ (spliced ((false, eval (.Lambda lparams lbody lscope lpos) X.env) :: backTo pos (starEach [] X.env))) _ _ s
  obtain ⟨ws, rs, δ2, hw, hl, r2, q⟩ := caps_read r (Post.bind p0)
  rw [callP_resF] at q
  cases he : escs rs with
  | none => simp only [he] at q; exact q.elim
  | some ds =>
    simp only [he] at q
    refine Calls.spliced_cons (core_L (pre := []) (prs := []) (upre := []) (post := []) (Fd := F) (Gf := Gf) (G1 := G1) (Q := Q) (W := W) L HG hr (hx σ) (fun q m => nomatch m) (fun c es fs e en => ?_) I .nil hw hl rfl r2 he q _ fun f s2 ⟨H2, I2⟩ hc => ?_)
    · cases es with
      | nil => exact hG c fs en
      | cons a b => cases e
    · exact Calls.spliced_nil ⟨I2.kIn, hc⟩
/-- g(e0, lambda, j): j a def -/
theorem d_callL1 {e0 : Expr} {m0 : M Sl} {jn : Str} {jp : Pos} {j : Addr} {fdj : FuncData} {psj : List Str} {Fj : List PyData → FRes} (L : LamK X cl kc x lparams lbody lscope lps fr js F) (HG : HOk X.prog X.w X.K X.mg X.base cl kc k g [Fd, F, Fj] Gf) (hr : Room k X.A) (hg : Gl X y) (hm : X.mg y = some (.ref g)) (hk : PySem.W.keepIn X.K (.ref g) = true) (hx : ∀ σ, PassesAt (L2.CX X.prog X.w) X σ (EW cl W σ))
    (h0 : PE X e0 (tV X.K W m0)) (Gj : FnOk X.prog X.w X.K X.mg X.base (L2.CX X.prog X.w) kc j fdj psj (spP X.K cl Fj)) (hgj : Gl X jn) (hmj : X.mg jn = some (.ref j)) (hkj : PySem.W.keepIn X.K (.ref j) = true) (hbj : Binds X.K fdj psj []) (hlj : ∀ ds, Fj ds ≠ .no → ds.length = psj.length)
    (hG : ∀ c d fs, G1 (d :: fs) ≠ .no → Gf [Sl.sh d, Sl.clo c fs, Sl.clo ⟨j, [], []⟩ []] = G1 (d :: fs)) (hdb : (y == ("__debug__" : Str)) = false := by decide) (hdj : (jn == ("__debug__" : Str)) = false := by decide)
    (he : starEach (e0 :: [.Lambda lparams lbody lscope lpos, .Name jn jp]) X.env = (false, eval e0 X.env) :: starEach [.Lambda lparams lbody lscope lpos, .Name jn jp] X.env := by rfl) (hpl : (backTo pos (starEach [.Lambda lparams lbody lscope lpos, .Name jn jp] X.env)).any (·.1) = false := by rfl) :
    PE X (.Call (.Name y p) [e0, .Lambda lparams lbody lscope lpos, .Name jn jp] [] pos) (tV X.K W (mCons m0 (capsM js) >>= callP G1)) := by
  refine ⟨fun pins s σ H Q I ⟨Γ, δ, γ, r, p0⟩ => ?_⟩
  refine wpAny_Call_Name_kw (ld_glob I hg hm ?_ hdb)
  refine PySem.W.callWith_K (first := []) (h₀ := X.base) I.ok.mod.kin hk ?_ he hpl
  rw [he]
  show wpAny _ _ (spliced ((false, eval e0 X.env) :: backTo pos (starEach [.Lambda lparams lbody lscope lpos, .Name jn jp] X.env))) _ _ s
  refine Calls.spliced_cons (thn (h0.run pins s σ H (fun v H1 => ∃ (a : Sl) (ws : List V) (rs δ2 : List Sl), js.map (slotAt σ) = ws.map some ∧ ws.length = rs.length ∧ RS X.K Γ σ δ2 ((ws.map some).zip rs ++ ((some v, a) :: γ)) H1 ∧
    Post X.K W Γ σ γ (callP G1 (a :: rs) δ2) fun s δ' => ∀ v H', RS X.K Γ σ δ' ((some v, s) :: γ) H' → Q v H') I ⟨Γ, δ, γ, r, (Post.cons p0).imp fun a δ1 q v H1 r1 => ?_⟩) fun u0 s1 ⟨v0, H1, I1, rv0, a, ws, rs, δ2, hw, hl, r2, q⟩ => ?_)
  · obtain ⟨ws, rs, δ2, hw, hl, r2, q2⟩ := caps_read r1 (q.ext [(some v, a)])
    exact ⟨a, ws, rs, δ2, hw, hl, r2, q2⟩
  · rw [callP_resF] at q
    cases hes : escs (a :: rs) with
    | none => simp only [hes] at q; exact q.elim
    | some ds =>
      simp only [hes] at q
      show wpAny _ _ (spliced ((false, eval (.Lambda lparams lbody lscope lpos) X.env) :: backTo pos (starEach [.Name jn jp] X.env))) _ _ s1
      refine Calls.spliced_cons (core_L (pre := [v0]) (prs := [a]) (upre := [u0]) (post := [(j, Fj)]) (Fd := Fd) (Gf := Gf) (G1 := G1) (Q := Q) (W := W) L HG hr (hx σ) (fun q m h H => ?_) (fun c es fs e en => ?_) I1 (.cons rv0 .nil) hw hl rfl r2 hes q _ fun f s2 ⟨H2, I2⟩ hc => ?_)
      · rcases List.mem_cons.mp m with rfl | m
        · exact CloAt.of Gj hkj hbj hlj
        · cases m
      · cases es with
        | nil => cases e
        | cons d t => cases t with
          | nil => exact hG c d fs en
          | cons _ _ => cases e
      · show wpAny _ _ (spliced ((false, eval (.Name jn jp) X.env) :: backTo pos (starEach [] X.env))) _ _ s2
        exact Calls.spliced_cons (ld_glob I2 hgj hmj (Calls.spliced_nil ⟨I2.kIn, hc⟩) hdj)
/-- g(e0, e1, lambda) -/
theorem d_callL2 {e0 e1 : Expr} {m0 m1 : M Sl} {Fd2 : List PyData → FRes} (L : LamK X cl kc x lparams lbody lscope lps fr js F) (HG : HOk X.prog X.w X.K X.mg X.base cl kc k g [Fd, Fd, F] Gf) (hr : Room k X.A) (hg : Gl X y) (hm : X.mg y = some (.ref g)) (hk : PySem.W.keepIn X.K (.ref g) = true) (hx : ∀ σ, PassesAt (L2.CX X.prog X.w) X σ (EW cl W σ))
    (h0 : PE X e0 (tV X.K W m0)) (h1 : PE X e1 (tV X.K W m1))
    (hG : ∀ c d d2 fs, G1 (d :: d2 :: fs) ≠ .no → Gf [Sl.sh d, Sl.sh d2, Sl.clo c fs] = G1 (d :: d2 :: fs)) (hdb : (y == ("__debug__" : Str)) = false := by decide)
    (he : starEach (e0 :: [e1, .Lambda lparams lbody lscope lpos]) X.env = (false, eval e0 X.env) :: starEach [e1, .Lambda lparams lbody lscope lpos] X.env := by rfl) (he1 : starEach (e1 :: [.Lambda lparams lbody lscope lpos]) X.env = (false, eval e1 X.env) :: starEach [.Lambda lparams lbody lscope lpos] X.env := by rfl) (hpl : (backTo pos (starEach [e1, .Lambda lparams lbody lscope lpos] X.env)).any (·.1) = false := by rfl) :
    PE X (.Call (.Name y p) [e0, e1, .Lambda lparams lbody lscope lpos] [] pos) (tV X.K W (mCons m0 (mCons m1 (capsM js)) >>= callP G1)) := by
  refine ⟨fun pins s σ H Q I ⟨Γ, δ, γ, r, p0⟩ => ?_⟩
  refine wpAny_Call_Name_kw (ld_glob I hg hm ?_ hdb)
  refine PySem.W.callWith_K (first := []) (h₀ := X.base) I.ok.mod.kin hk ?_ he hpl
  rw [he]
  show wpAny _ _ (spliced ((false, eval e0 X.env) :: backTo pos (starEach [e1, .Lambda lparams lbody lscope lpos] X.env))) _ _ s
  refine Calls.spliced_cons (thn (h0.run pins s σ H (fun v H1 => ∃ (a : Sl) (δ1 : List Sl), RS X.K Γ σ δ1 ((some v, a) :: γ) H1 ∧
    Post X.K W Γ σ γ (mCons m1 (capsM js) δ1) fun rs δ2 => Post X.K W Γ σ γ (callP G1 (a :: rs) δ2) fun s δ' => ∀ v H', RS X.K Γ σ δ' ((some v, s) :: γ) H' → Q v H') I ⟨Γ, δ, γ, r, (Post.cons p0).imp fun a δ1 q v H1 r1 => ⟨a, δ1, r1, q⟩⟩) fun u0 s1 ⟨v0, H1, I1, rv0, a, δ1, r1, q⟩ => ?_)
  rw [he1]
  show wpAny _ _ (spliced ((false, eval e1 X.env) :: backTo pos (starEach [.Lambda lparams lbody lscope lpos] X.env))) _ _ s1
  refine Calls.spliced_cons (thn (h1.run pins s1 σ H1 (fun v H2 => ∃ (b : Sl) (ws : List V) (rs δ2 : List Sl), js.map (slotAt σ) = ws.map some ∧ ws.length = rs.length ∧ RS X.K Γ σ δ2 ((ws.map some).zip rs ++ ((some v, b) :: (some v0, a) :: γ)) H2 ∧
    Post X.K W Γ σ γ (callP G1 (a :: b :: rs) δ2) fun s δ' => ∀ v H', RS X.K Γ σ δ' ((some v, s) :: γ) H' → Q v H') I1 ⟨Γ, δ1, _, r1, ((Post.bind q).ext [(some v0, a)]).imp fun b δ2 q2 v H2 r2 => ?_⟩) fun u1 s2 ⟨v1, H2, I2, rv1, b, ws, rs, δ2, hw, hl, r2, q2⟩ => ?_)
  · obtain ⟨ws, rs, δ3, hw, hl, r3, q3⟩ := caps_read r2 ((Post.bind q2).ext [(some v, b), (some v0, a)])
    exact ⟨b, ws, rs, δ3, hw, hl, r3, q3⟩
  · rw [callP_resF] at q2
    cases hes : escs (a :: b :: rs) with
    | none => simp only [hes] at q2; exact q2.elim
    | some ds =>
      simp only [hes] at q2
      show wpAny _ _ (spliced ((false, eval (.Lambda lparams lbody lscope lpos) X.env) :: backTo pos (starEach [] X.env))) _ _ s2
      have r3 : RS X.K Γ σ δ2 ((ws.map some).zip rs ++ ((([v0, v1] : List V).map some).zip [a, b] ++ γ)) H2 := r2.perm (List.Perm.append_left _ (List.Perm.swap _ _ _))
      refine Calls.spliced_cons (core_L (pre := [v0, v1]) (prs := [a, b]) (upre := [u0, u1]) (post := []) (Fd := Fd) (Gf := Gf) (G1 := G1) (Q := Q) (W := W) L HG hr (hx σ) (fun q m => nomatch m) (fun c es fs e en => ?_) I2 (.cons rv0 (.cons rv1 .nil)) hw hl rfl r3 hes q2 _ fun f s2 ⟨H2, I2⟩ hc => ?_)
      · match es, e with
        | [d, d2], _ => exact hG c d d2 fs en
      · exact Calls.spliced_nil ⟨I2.kIn, hc⟩
end
/-! ### a def that makes a lambda -/
section
variable {P : Program} {w : World} {K : PySem.W.Frag} {mg : Str → Option Value} {base : Heap} {x qual : Str} {params : Arguments} {body : List Stmt} {scope : Scope} {dvs : List V} {kws : List (Str × V)} {f : Addr} {fd : FuncData} {cl : Str → Value}
theorem fn_PL {N ps : List Str} {k : Nat} {m : SM} {F : List PyData → FRes} (FD : FunD K x qual params body scope [] kws f fd) (hfa : f = He.ga K x) (S : FnScope N ps scope) (hF : ∀ ds, F ds ≠ .no → ds.length = ps.length) (he : ∀ ds, F ds ≠ .no → F ds = runP N.length m ds)
    (hb : ∀ (A : Around) (outer : List Env) (s : Shared) (H : Hp) (E : XK), Room k (A.deeper (envOfC qual scope s.heap.objs.size f (.ref (codA K x)))) → PSs (cxOf (L2.CX P w) P w K mg base N qual scope f (.ref (codA K x)) A outer s H E) body (tS K (WE cl E) m)) :
    FnOk P w K mg base (L2.CX P w) (k + 1) f fd ps (spP K cl F) := by
  obtain ⟨oc, od, dV, kV, doc, pm, an, cdv, ct, osl, rfl, lk, hcd, _, _⟩ := FD.ex
  have hc : cdv = .ref (codA K x) := by
    have e1 : ∃ c, cdv = .ref c := by
      cases cdv with
      | ref c => exact ⟨c, rfl⟩
      | _ => cases hcd
    obtain ⟨c, rfl⟩ := e1
    have := He.codeOf_eq (K := K) (p := (x, none)) (fd := PySem.W.fnOf x qual params body scope dV kV doc pm an (.ref c) ct) (c := c) (by rw [← lk, hfa]; rfl) rfl
    exact congrArg Value.ref this.symm
  subst hc
  refine fn_of lk hcd S (fun vs H Q E h => ?_) fun A outer s H vs Q E hr h => ⟨_, hb A outer s H E hr, ?_⟩
  · obtain ⟨B, ds, hB, ra, h⟩ := h
    have hn : F ds ≠ .no := fun z => by rw [z] at h; exact h
    rw [ra.length, hF ds hn]
  · obtain ⟨B, ds, hB, ra, h⟩ := h
    have hn : F ds ≠ .no := fun z => by rw [z] at h; exact h
    refine entry_S (B := B) hB (AO.of ra) ?_
    have e2 : runS N.length m (ds.map .sh) = F ds := (he ds hn).symm
    rw [e2]
    exact h
end
end DL

set_option Elab.async false
set_option linter.all false
set_option maxRecDepth 100000
set_option maxHeartbeats 1000000
namespace DL
open PySem PySem.Spec PyProof.Rows L2 LamX NdefX
/-! ### what grows by a leaf's and a join's function -/
def normR : FRes → FRes
  | .ok r none => match resOf r with
    | some s => .ok s none
    | none => .no
  | .er e => if e.val.isNone = true then .er e else .no
  | _ => .no
def bindR (x : FRes) (f : Sl → FRes) : FRes := match x with
  | .ok r none => f r
  | .er e => if e.val.isNone = true then .er e else .no
  | _ => .no
def cloOf (rs : List Sl) (i : Nat) : Clo := match rs[i]? with
  | some (.clo c _) => c
  | _ => ⟨0, [], []⟩
def okG : List Sl → Bool
  | [.sh _, .clo _ _, .clo _ _] => true
  | _ => false
theorem okG_eq {rs : List Sl} (h : okG rs = true) : ∃ t c1 f1 c2 f2, rs = [.sh t, .clo c1 f1, .clo c2 f2] := by
  unfold okG at h
  split at h
  · exact ⟨_, _, _, _, _, rfl⟩
  · cases h
/-- grown, its leaf's function and its join's told -/
def FG (F1 F2 : List PyData → FRes) : Nat → List PyData → FRes
  | 0, _ => .no
  | n + 1, .list l :: fs => normR (F1 (.list l :: fs))
  | n + 1, .tuple [_, a, b] :: fs => bindR (FG F1 F2 n (a :: fs)) fun r1 => bindR (FG F1 F2 n (b :: fs)) fun r2 => match escs [r1, r2] with
    | some ds => normR (F2 ds)
    | none => .no
  | _ + 1, _ => .no
theorem esc_res {s : Sl} {d : PyData} (h : esc s = some d) : resOf s = some s := by cases s <;> cases h <;> rfl
theorem normR_ok {x : FRes} {s : Sl} {d : PyData} (h : x = .ok s none) (e : esc s = some d) : normR x = .ok s none := by
  rw [h]
  show (match resOf s with | some s => FRes.ok s none | none => .no) = _
  rw [esc_res e]
/-- over a tree -/
theorem FG_tree {F1 F2 : List PyData → FRes} {fs : List PyData} {ok : Tr → Prop} {val : Tr → PyData} (h1 : ∀ l, ok (.leaf l) → ∃ s, F1 (St l :: fs) = .ok s none ∧ esc s = some (val (.leaf l)))
    (h2 : ∀ a b, ok (.node a b) → ok a ∧ ok b ∧ ∃ s, F2 [val a, val b] = .ok s none ∧ esc s = some (val (.node a b))) : ∀ (n : Nat) (t : Tr), ok t → t.deep < n → ∃ s, FG F1 F2 n (t.d :: fs) = .ok s none ∧ esc s = some (val t)
  | 0, t, _, h => absurd h (Nat.not_lt_zero _)
  | n + 1, .leaf l, o, _ => by
    obtain ⟨s, e, q⟩ := h1 l o
    exact ⟨s, normR_ok e q, q⟩
  | n + 1, .node a b, o, h => by
    obtain ⟨oa, ob, s, e, q⟩ := h2 a b o
    have hd : max a.deep b.deep < n := Nat.lt_of_succ_lt_succ (by simpa [Tr.deep, Nat.succ_eq_add_one, Nat.add_comm] using h)
    obtain ⟨s1, e1, q1⟩ := FG_tree h1 h2 n a oa (by omega)
    obtain ⟨s2, e2, q2⟩ := FG_tree h1 h2 n b ob (by omega)
    refine ⟨s, ?_, q⟩
    show bindR (FG F1 F2 n (a.d :: fs)) _ = _
    rw [e1]
    show bindR (FG F1 F2 n (b.d :: fs)) _ = _
    rw [e2]
    have e3 : escs [s1, s2] = some [val a, val b] := by simp [escs, q1, q2]
    show (match escs [s1, s2] with | some ds => normR (F2 ds) | none => .no) = _
    rw [e3]
    exact normR_ok e q
def freeB (sc lscope : Scope) : Bool := lscope.names.all fun y => !decide (y.2 = .free) || (decide (sc.names.lookup y.1 = some .cell) || decide (sc.names.lookup y.1 = some .free))
theorem free_ok {sc lscope : Scope} (h : freeB sc lscope = true) : ∀ y ∈ lscope.names, y.2 = .free → sc.names.lookup y.1 = some .cell ∨ sc.names.lookup y.1 = some .free := fun y m e => by
  have := List.all_eq_true.mp h y m
  rw [decide_eq_true e] at this
  simpa using this
/-- .. all answers told as they are -/
theorem FG_sh {F1 F2 : List PyData → FRes} {fs : List PyData} {ok : Tr → Prop} {val : Tr → PyData} (h1 : ∀ l, ok (.leaf l) → F1 (St l :: fs) = .ok (.sh (val (.leaf l))) none)
    (h2 : ∀ a b, ok (.node a b) → ok a ∧ ok b ∧ F2 [val a, val b] = .ok (.sh (val (.node a b))) none) : ∀ (n : Nat) (t : Tr), ok t → t.deep < n → FG F1 F2 n (t.d :: fs) = .ok (.sh (val t)) none
  | 0, t, _, h => absurd h (Nat.not_lt_zero _)
  | n + 1, .leaf l, o, _ => normR_ok (h1 l o) rfl
  | n + 1, .node a b, o, h => by
    obtain ⟨oa, ob, e⟩ := h2 a b o
    have hd : max a.deep b.deep < n := Nat.lt_of_succ_lt_succ (by simpa [Tr.deep, Nat.succ_eq_add_one, Nat.add_comm] using h)
    show bindR (FG F1 F2 n (a.d :: fs)) _ = _
    rw [FG_sh h1 h2 n a oa (by omega)]
    show bindR (FG F1 F2 n (b.d :: fs)) _ = _
    rw [FG_sh h1 h2 n b ob (by omega)]
    exact normR_ok e rfl
theorem wF_eq' {x : FRes} {s : Sl} (h : ∀ Q : Sl → Prop, Q s → wF x Q) : x = .ok s none := by
  obtain ⟨r, e, q⟩ := h (fun r => r = s) rfl
  rw [← q]
  exact e
/-! ### runs, worked out -/
theorem runS_ret {n : Nat} {m : SM} {rs : List Sl} {x : FRes} {δ : List Sl} (h : m (startD n rs) = (match resF x δ with | .ok r δ' => SRes.rt r δ' | .er e δ' => SRes.er e δ' | .no => SRes.no)) : runS n m rs = normR x := by
  unfold runS
  rw [h]
  unfold resF normR
  cases x with
  | ok r out => cases out <;> rfl
  | er e => by_cases hv : e.val.isNone = true <;> simp [hv]
  | no => rfl
theorem tst_dat {d : PyData} {b : Bool} {δ : List Sl} (h : δ[0]? = some (.sh d)) (hb : tyB d "list" = some b) : tst (isM "list" (rdM 0)) δ = .ok b δ := by
  have e : rdM 0 δ = .ok (.sh d) δ := by unfold rdM; rw [h]
  show Res.bind (Res.bind (rdM 0 δ) _) boolM = _
  rw [e]
  show Res.bind (match tyB d "list" with
    | some b => .ok (.sh (.bool b)) δ
    | none => .no) boolM = _
  rw [hb]
  rfl
theorem tyB_ll {l : List PyData} : tyB (.list l) "list" = some true := kit_ll
theorem tyB_tl {l : List PyData} : tyB (.tuple l) "list" = some false := kit_tl
theorem cal_eq {i : Nat} {c : Clo} {F : List PyData → FRes} {ms : M (List Sl)} {δ δ1 : List Sl} {ds es : List PyData} {rs : List Sl} (h : δ[i]? = some (.clo c ds)) (hm : ms δ = .ok rs δ1) (he : escs rs = some es) : callC i c F ms δ = resF (F (es ++ ds)) δ1 := by
  unfold callC
  simp only [h]
  rw [if_pos True.intro, hm]
  show (match escs rs with | some es => resF (F (es ++ ds)) δ1 | none => .no) = _
  rw [he]
theorem calH_eq {rs0 : List Sl} {G : List Sl → FRes} {ms : M (List Sl)} {δ δ1 : List Sl} {ts rs : List Sl} (hm : ms δ = .ok rs δ1) (he : escH rs = some ts) (hc : ∀ (i : Nat) (c : Clo) (ds : List PyData), ts[i]? = some (Sl.clo c ds) → rs0[i]? = some (Sl.clo c ds)) : (ms >>= callH rs0 G) δ = resF (G ts) δ1 := by
  rw [bind_eq, hm]
  show callH rs0 G rs δ1 = _
  unfold callH
  simp only [he]
  rw [if_pos hc]
theorem clos_ok {d d' : PyData} {c1 c2 : Clo} {f1 f2 : List PyData} : ∀ (i : Nat) (c : Clo) (ds : List PyData), [Sl.sh d, .clo c1 f1, .clo c2 f2][i]? = some (Sl.clo c ds) → [Sl.sh d', .clo c1 f1, .clo c2 f2][i]? = some (Sl.clo c ds)
  | 0, _, _, h => by cases h
  | 1, _, _, h => h
  | 2, _, _, h => h
  | _ + 3, _, _, h => by cases h
theorem resF_no {x : FRes} {δ : List Sl} : (∃ r, x = .ok r none ∧ resF x δ = .ok r δ) ∨ (∃ e, x = .er e ∧ e.val.isNone = true ∧ resF x δ = .er e δ) ∨ resF x δ = .no := by
  unfold resF
  cases x with
  | ok r out =>
    cases out with
    | none => exact .inl ⟨r, rfl, rfl⟩
    | some o => exact .inr (.inr rfl)
  | er e =>
    by_cases hv : e.val.isNone = true
    · exact .inr (.inl ⟨e, rfl, hv, by simp [hv]⟩)
    · exact .inr (.inr (by simp [hv]))
  | no => exact .inr (.inr rfl)
def resR (x : Res Sl) : FRes := match x with
  | .ok r _ => match resOf r with
    | some s => .ok s none
    | none => .no
  | .er e _ => .er e
  | .no => .no
def toRt (R : Res Sl) : SRes := match R with
  | .ok a δ' => .rt a δ'
  | .er e δ' => .er e δ'
  | .no => .no
theorem retS_toRt {m : M Sl} {δ : List Sl} : retS m δ = toRt (m δ) := by
  unfold retS M.toS toRt
  cases m δ <;> rfl
theorem runS_last {n : Nat} {m : SM} {rs : List Sl} {R : Res Sl} (h : m (startD n rs) = toRt R) : runS n m rs = resR R := by
  unfold runS resR
  rw [h]
  cases R <;> rfl
theorem mCons_eq {m : M Sl} {ms : M (List Sl)} {δ : List Sl} : mCons m ms δ = (m δ).bind fun x δ1 => (ms δ1).bind fun xs δ2 => .ok (x :: xs) δ2 := rfl
theorem resR_resF {x : FRes} {δ : List Sl} : resR (resF x δ) = normR x := by
  cases x with
  | ok r out => cases out <;> rfl
  | er e => by_cases hv : e.val.isNone = true <;> simp [resF, normR, hv, resR]
  | no => rfl
theorem callC_eq {i : Nat} {c : Clo} {F : List PyData → FRes} {ms : M (List Sl)} {δ : List Sl} {ds : List PyData} (h : δ[i]? = some (.clo c ds)) : callC i c F ms δ = (ms δ).bind fun rs δ1 => match escs rs with
    | some es => resF (F (es ++ ds)) δ1
    | none => .no := by
  unfold callC
  simp only [h]
  first
    | (rw [if_pos True.intro]; done)
    | (rw [if_pos True.intro]; rfl)
/-! ### tables at the head -/
/-- the defs tf make lambdas, no other ones -/
def lamB (tf : List Str) (K : PySem.W.Frag) : Bool := lamDefs.all fun x => (isTab K x == tf.contains x) && lamDefs.all fun y => !isTab K y || !isTab K x || !decide (tabA K y = tabA K x) || decide (y = x)
theorem lamB_ok {tf : List Str} {K : PySem.W.Frag} (h : lamB tf K = true) : (∀ x ∈ lamDefs, isTab K x = true → x ∈ tf) ∧ (∀ x ∈ lamDefs, x ∈ tf → isTab K x = true) ∧ ∀ x ∈ lamDefs, isTab K x = true → ∀ y ∈ lamDefs, isTab K y = true → tabA K y = tabA K x → y = x := by
  have f : ∀ x ∈ lamDefs, _ := List.all_eq_true.mp h
  have g : ∀ x ∈ lamDefs, (isTab K x == tf.contains x) = true ∧ (lamDefs.all fun y => !isTab K y || !isTab K x || !decide (tabA K y = tabA K x) || decide (y = x)) = true := fun x m => by
    have := f x m
    rwa [Bool.and_eq_true] at this
  refine ⟨fun x m z => ?_, fun x m z => ?_, fun x m z y my zy e => ?_⟩
  · have := (g x m).1
    rw [z] at this
    have h2 : tf.contains x = true := by
      cases q : tf.contains x with
      | true => rfl
      | false => rw [q] at this; cases this
    exact List.contains_iff_mem.mp h2
  · have := (g x m).1
    rw [List.contains_iff_mem.mpr z] at this
    cases q : isTab K x with
    | true => rfl
    | false => rw [q] at this; cases this
  · have := List.all_eq_true.mp (g x m).2 y my
    rw [z, zy, decide_eq_true e] at this
    simpa using this
theorem head_tabs {tf : List Str} {fa : List He.Fa} {fn : List He.DefD} {ts : List He.Tab} {ex : PySem.W.Frag → Bool} {w : World} {h : Heap} {K : PySem.W.Frag} (KX : K.In h) (c : He.SaysX fa fn ts (tf.map fun x => (x, none)) ex w h K) (hb : lamB tf K = true) :
    (∀ p ∈ tf.map (fun x => He.cT K (x, none)), h.get? p.2 = some { cls := .none, data := .fields #[] }) ∧ (∀ p ∈ tf.map (fun x => He.cT K (x, none)), K.lookup p.2 = none) ∧ (∀ p ∈ tf.map (fun x => He.cT K (x, none)), PySem.W.CodeHd h p.1 p.2) ∧ ∀ H : Hp, (∀ p ∈ tf.map (fun x => He.cT K (x, none)), H p.2 = some (.tbl #[])) → Tb K H := by
  have mm : ∀ {x : Str}, x ∈ tf → ((x, none) : Str × Option Str) ∈ tf.map fun x => (x, none) := fun m => List.mem_map.mpr ⟨_, m, rfl⟩
  refine ⟨fun p m => ?_, fun p m => ?_, fun p m => ?_, fun H hH x m z => ?_⟩
  · obtain ⟨x, mx, rfl⟩ := List.mem_map.mp m
    exact c.empty _ (mm mx)
  · obtain ⟨x, mx, rfl⟩ := List.mem_map.mp m
    exact c.out _ (mm mx)
  · obtain ⟨x, mx, rfl⟩ := List.mem_map.mp m
    exact PySem.W.codeHd_of_K KX (c.hd _ (mm mx))
  · exact TabS.nil (hH _ (List.mem_map.mpr ⟨x, (lamB_ok hb).1 x m z, rfl⟩))
end DL

set_option Elab.async false
set_option linter.all false
set_option maxRecDepth 100000
set_option maxHeartbeats 1000000
namespace DL
open PySem PySem.Spec PyProof.Rows L2
/-! ### trees and tallies, more -/
theorem adds_snoc (T : Tl) (u : List Th) (x : Th) : T.adds (u ++ [x]) = (T.adds u).mrg (Tl.one (T.adds u).room x) := by unfold Tl.adds; rw [List.foldl_append]; rfl
theorem wd_strm : ∀ {t : Tr}, t.All Wd → Wd t.strm
  | .leaf l, h => by have h : Wd l := h; simpa [Tr.strm, Tr.strs] using h
  | .node a b, h => by
    have e : (Tr.node a b).strm = a.strm ++ b.strm := by simp [Tr.strm, Tr.strs]
    rw [e]
    exact fun t m => (List.mem_append.mp m).elim (wd_strm h.1 t) (wd_strm h.2 t)
theorem oks_strm : ∀ {t : Tr}, t.All Oks → Oks t.strm
  | .leaf l, h => by have h : Oks l := h; simpa [Tr.strm, Tr.strs] using h
  | .node a b, h => by
    have e : (Tr.node a b).strm = a.strm ++ b.strm := by simp [Tr.strm, Tr.strs]
    rw [e]
    exact fun t m => (List.mem_append.mp m).elim (oks_strm h.1 t) (oks_strm h.2 t)
theorem strm_len {n : Nat} : ∀ {t : Tr}, t.All (fun l => l.length ≤ n) → t.strm.length ≤ t.parts * n
  | .leaf l, h => by have h : l.length ≤ n := h; simpa [Tr.strm, Tr.strs, Tr.parts] using h
  | .node a b, h => by
    have e : (Tr.node a b).strm = a.strm ++ b.strm := by simp [Tr.strm, Tr.strs]
    have h1 := strm_len h.1
    have h2 := strm_len h.2
    have e2 : (Tr.node a b).parts * n = a.parts * n + b.parts * n := Nat.add_mul _ _ _
    rw [e, List.length_append, e2]
    omega
theorem flatT (T : Tl) : flatR T.d = true := by
  have e : flatL (C T.cts) = true := flatL_map (f := fun p : Str × Int => PyData.tuple [.str p.1, .int p.2]) fun p _ => by simp
  simp [Tl.d, e]
theorem none_mrg {r : Int} (hr : 1 ≤ r ∧ r ≤ 20) : (Tl.none r).mrg (Tl.none r) = Tl.none r := Tl.mrg_none ((Tl.Fit.none hr).ok (by show (0 : Int) < _; decide)) r
theorem wm_reverse {l : List PyData} {Q : PyData → PyData → Prop} (q : Q .none (.list l.reverse)) : wMu (mReverse (.list l) []) Q := by
  show wMu (some (PyData.none, PyData.list l.reverse)) Q
  rw [wMu_some]
  exact q
theorem fit_str {r : Int} {T : Tl} (h : Tl.Fit r T) : ∀ p ∈ T.cts, PyData.strOk p.1 = true := fun p m => wordy_ok (h.wd p m)
end DL

set_option Elab.async false
set_option linter.all false
set_option maxRecDepth 100000
set_option maxHeartbeats 1000000
namespace DL
open PySem PySem.Spec PyProof.Rows L2
/-! ### bounds of what is kept -/
theorem tots_val {k : Str} : ∀ {B : List (Str × Int)}, (B.map (·.1)).Nodup → tots B k = (val B k).getD 0
  | [], _ => rfl
  | p :: B, h => by
    rw [List.map_cons, List.nodup_cons] at h
    rw [tots_cons, tots_val h.2]
    by_cases e : p.1 = k
    · rw [if_pos e]
      have hn : val B k = none := val_none.mpr (by rw [← e]; exact h.1)
      have hp : val (p :: B) p.1 = some p.2 := val_mem (by rw [List.map_cons, List.nodup_cons]; exact h) List.mem_cons_self
      rw [hn, ← e, hp]
      show p.2 + 0 = p.2
      omega
    · rw [if_neg e]
      have : val (p :: B) k = val B k := by unfold val; rw [List.find?_cons_of_neg (by simpa using e)]
      rw [this]
      omega
theorem ct_above {s : List (Str × Int)} {c : Int} (nd : (s.map (·.1)).Nodup) (h0 : 0 ≤ c) (k : Str) : (val (above s c) k).getD 0 = if c < (val s k).getD 0 then (val s k).getD 0 - c else 0 := by
  have ra := (above_rise (c := c) nd).nd
  split
  · rename_i h
    cases hv : val s k with
    | none => rw [hv] at h; exact absurd h (by show ¬ c < 0; omega)
    | some v =>
      rw [hv] at h
      have h : c < v := h
      have m : (k, v) ∈ s := mem_of_val hv
      have m2 : (k, v - c) ∈ above s c := by
        unfold above
        exact List.mem_map.mpr ⟨(k, v), List.mem_filter.mpr ⟨(srtD_perm nd).mem_iff.mpr m, decide_eq_true h⟩, rfl⟩
      have := val_mem ra m2
      rw [this]
      rfl
  · rename_i h
    have hn : k ∉ (above s c).map (·.1) := fun m => by
      obtain ⟨p, mp, rfl⟩ := List.mem_map.mp m
      unfold above at mp
      obtain ⟨q, mq, rfl⟩ := List.mem_map.mp mp
      obtain ⟨m1, m2⟩ := List.mem_filter.mp mq
      have m3 := val_mem nd ((srtD_perm nd).mem_iff.mp m1)
      rw [m3] at h
      have m2 : c < q.2 := by simpa using m2
      exact h m2
    rw [val_none.mpr hn]
    rfl
/-- the bounds hold for the stream -/
def Holds (T : Tl) (l : List Th) : Prop := ∀ k, T.ct k ≤ times l k ∧ times l k ≤ T.ct k + T.lt
theorem Tl.Fit.ct0 {r : Int} {T : Tl} (h : Tl.Fit r T) (k : Str) : 0 ≤ T.ct k := by
  unfold Tl.ct
  cases hv : val T.cts k with
  | none => exact Int.le_refl _
  | some v => have := h.c1 _ (mem_of_val hv); show 0 ≤ v; simp at this; omega
theorem mrg_ct {r : Int} {T U : Tl} (f : Tl.Fit r T) (g : Tl.Fit r U) (k : Str) : (T.mrg U).ct k = if cutO r (sums T.cts U.cts) < T.ct k + U.ct k then T.ct k + U.ct k - cutO r (sums T.cts U.cts) else 0 := by
  have nd := sums_nd (B := U.cts) f.rise.nd
  have e : (val (sums T.cts U.cts) k).getD 0 = T.ct k + U.ct k := by rw [getD_sums, tots_val g.rise.nd]; rfl
  have c0 : 0 ≤ cutO r (sums T.cts U.cts) := cutO_nn (by have := f.r1; omega) (sums_c1 f.rise g.rise f.c1 g.c1)
  have := ct_above nd c0 k
  rw [e] at this
  show (val (above (sums T.cts U.cts) (cutO T.room (sums T.cts U.cts))) k).getD 0 = _
  rw [f.room]
  exact this
theorem times_app' (a b : List Th) (k : Str) : times (a ++ b) k = times a k + times b k := by
  unfold times
  rw [List.filter_append, List.map_append, List.sum_append]
theorem Holds.mrg {r : Int} {T U : Tl} {l m : List Th} (f : Tl.Fit r T) (g : Tl.Fit r U) (h : Holds T l) (k : Holds U m) : Holds (T.mrg U) (l ++ m) := fun x => by
  have h1 := h x
  have h2 := k x
  have c1 := f.ct0 x
  have c2 := g.ct0 x
  have c0 : 0 ≤ cutO r (sums T.cts U.cts) := cutO_nn (by have := f.r1; omega) (sums_c1 f.rise g.rise f.c1 g.c1)
  have e : (T.mrg U).lt = T.lt + U.lt + cutO r (sums T.cts U.cts) := by show T.lt + U.lt + cutO T.room _ = _; rw [f.room]
  rw [mrg_ct f g, times_app', e]
  split <;> omega
theorem Holds.one (r : Int) (t : Th) : Holds (Tl.one r t) [t] := fun k => by
  have e : times [t] k = if t.mark = k then t.many else 0 := by rw [times_cons]; show _ + (0 : Int) = _; omega
  have e2 : (Tl.one r t).ct k = if t.mark = k then t.many else 0 := by
    by_cases h : t.mark = k <;> simp [Tl.ct, Tl.one, val, h]
  rw [e, e2]
  show _ ∧ _ ≤ _ + (0 : Int)
  omega
theorem Holds.adds {r : Int} (hr : 1 ≤ r ∧ r ≤ 20) : ∀ {l : List Th} {T : Tl} {m : List Th}, Tl.Fit r T → Holds T m → Wd l → Holds (T.adds l) (m ++ l)
  | [], T, m, f, h, _ => by rw [List.append_nil]; exact h
  | t :: l, T, m, f, h, hw => by
    have ht := hw t (by simp)
    have g : Tl.Fit r (Tl.one T.room t) := by rw [f.room]; exact .one hr ht.1 ht.2
    have := Holds.adds hr (l := l) (T := T.mrg (Tl.one T.room t)) (m := m ++ [t]) (f.mrg g) (Holds.mrg f g h (Holds.one _ t)) fun x mx => hw x (by simp [mx])
    rw [List.append_assoc] at this
    exact this
theorem Tr.holds {r : Int} (hr : 1 ≤ r ∧ r ≤ 20) : ∀ {t : Tr}, t.All Wd → Holds (t.tl r) t.strm
  | .leaf l, h => by
    have e : (Tr.leaf l).strm = l := by simp [Tr.strm, Tr.strs]
    rw [e]
    have := Holds.adds hr (l := l) (T := Tl.none r) (m := []) (.none hr) (fun k => ⟨Int.le_refl _, Int.le_refl _⟩) h
    exact this
  | .node a b, h => by
    have e : (Tr.node a b).strm = a.strm ++ b.strm := by simp [Tr.strm, Tr.strs]
    rw [e]
    exact Holds.mrg (Tr.fit hr h.1) (Tr.fit hr h.2) (Tr.holds hr h.1) (Tr.holds hr h.2)
end DL

set_option Elab.async false
set_option linter.all false
set_option maxRecDepth 100000
set_option maxHeartbeats 1000000
namespace DL
open PySem PySem.Spec PyProof.Rows L2
/-! ### lists of data changed by place; texts, streams, dues -/
theorem fit_strs {r : Int} {T : Tl} (h : Tl.Fit r T) : ∀ p ∈ T.cts, PyData.strOk p.1 = true := fit_str h
theorem wm_popAt {l : List PyData} {i : Int} {Q : PyData → PyData → Prop} (h0 : 0 ≤ i) (h1 : i < l.length) (h2 : l.length < 1000000) (q : Q (l[i.toNat]'(by omega)) (.list (l.eraseIdx i.toNat))) : wMu (mPopAt (.list l) [.int i]) Q := by
  have e : seqIndex? i l.length = some i.toNat := by
    unfold seqIndex?
    simp [h0, h1]
    omega
  show wMu (if -(2 ^ 63) ≤ i ∧ i < 2 ^ 63 then match seqIndex? i l.length with
      | some k => l[k]?.map fun y => (y, .list (l.eraseIdx k))
      | none => none
    else none) Q
  rw [if_pos ⟨by omega, by omega⟩, e]
  dsimp only
  rw [List.getElem?_eq_getElem (by omega), Option.map_some, wMu_some]
  exact q
theorem wm_insert {l : List PyData} {i : Int} {d : PyData} {Q : PyData → PyData → Prop} (h0 : 0 ≤ i) (h1 : i ≤ l.length) (h2 : l.length < 1000000) (q : Q .none (.list (l.take i.toNat ++ [d] ++ l.drop i.toNat))) : wMu (mInsert (.list l) [.int i, d]) Q := by
  show wMu (if l.length < 1000000 ∧ 0 ≤ i ∧ i < 2 ^ 63 then some (.none, .list (l.take i.toNat ++ [d] ++ l.drop i.toNat)) else none) Q
  rw [if_pos ⟨h2, h0, by omega⟩, wMu_some]
  exact q
theorem noBl_strs : ∀ ks : List Str, noBlA (ks.map .str) = true
  | [] => rfl
  | k :: ks => by simp [noBlA, noBl, noBl_strs ks]
theorem strs_inj {ks js : List Str} (h : ks.map PyData.str = js.map .str) : ks = js := by
  have := congrArg (List.map fun d => match d with | .str x => x | _ => default) h
  simpa [Function.comp_def] using this
theorem eqv_strs {ks js : List Str} (h : ∀ k ∈ ks, PyData.strOk k = true) : PyData.eqv (.list (ks.map .str)) (.list (js.map .str)) = decide (ks = js) := by
  by_cases e : ks = js
  · subst e
    rw [decide_eq_true rfl]
    exact (Sh.listm (n := 1) (f := .str) fun k m => Sh.str (h k m)).eqv
  · rw [decide_eq_false e]
    cases z : PyData.eqv (.list (ks.map .str)) (.list (js.map .str)) with
    | false => rfl
    | true =>
      have := eqv_inj (d := .list (ks.map .str)) (e := .list (js.map .str)) (by simp [noBl, noBl_strs]) (by simp [noBl, noBl_strs]) z
      exact absurd (strs_inj (by simpa using this)) e
theorem due_len {c : List (Str × Int)} {p : List Bn} : (due c p).length ≤ c.length + (dues p).length := sums_len
def AllB (r : Int) (u : List Bn) : Prop := ∀ b ∈ u, bunchB r b = true
def AllM (K : List Str) (u : List Th) : Prop := ∀ t ∈ u, t.mark ∈ K
theorem nodup_len : ∀ {a b : List Str}, a.Nodup → (∀ k ∈ a, k ∈ b) → a.length ≤ b.length
  | [], _, _, _ => Nat.zero_le _
  | x :: a, b, nd, h => by
    rw [List.nodup_cons] at nd
    have hx := h x (by simp)
    have := nodup_len (a := a) (b := b.erase x) nd.2 fun k m => (List.mem_erase_of_ne (fun e => nd.1 (by rw [← e]; exact m))).mpr (h k (by simp [m]))
    rw [List.length_erase_of_mem hx] at this
    have := List.length_pos_of_mem hx
    simp only [List.length_cons]
    omega
def tm (l : List Th) : List (Str × Int) := l.map fun t => (t.mark, t.many)
theorem tots_tm (k : Str) : ∀ l : List Th, tots (tm l) k = times l k
  | [] => rfl
  | t :: l => by rw [show tm (t :: l) = (t.mark, t.many) :: tm l from rfl, tots_cons, times_cons, tots_tm k l]
theorem wordAt_map : (List.range 26).map (fun k : Nat => wordAt (k : Int)) = words := by decide +kernel
theorem erase_map {α β : Type} (f : α → β) : ∀ (l : List α) (j : Nat), (l.map f).eraseIdx j = (l.eraseIdx j).map f
  | [], _ => rfl
  | _ :: _, 0 => rfl
  | x :: l, j + 1 => by simp [erase_map f l j]
theorem times_app (a b : List Th) (k : Str) : times (a ++ b) k = times a k + times b k := by
  unfold times
  rw [List.filter_append, List.map_append, List.sum_append]
theorem ins_times (l : List Th) (t : Th) (j : Nat) (k : Str) : times (l.take j ++ [t] ++ l.drop j) k = times l k + if t.mark = k then t.many else 0 := by
  have e : times l k = times (l.take j ++ l.drop j) k := by rw [List.take_append_drop]
  rw [e, times_app, times_app, times_app, times_cons]
  show _ + (_ + 0) + _ = _
  omega
theorem ins_things (l : List Th) (t : Th) (j : Nat) : things (l.take j ++ [t] ++ l.drop j) = things l + t.many := by
  have e : things l = things (l.take j ++ l.drop j) := by rw [List.take_append_drop]
  have e1 : things [t] = t.many := by simp [things]
  rw [e, things_app, things_app, things_app, e1]
  omega
theorem ins_mem {l : List Th} {t x : Th} {j : Nat} (m : x ∈ l.take j ++ [t] ++ l.drop j) : x ∈ l ∨ x = t := by
  simp only [List.mem_append, List.mem_singleton] at m
  rcases m with (m | m) | m
  · exact .inl (List.mem_of_mem_take m)
  · exact .inr m
  · exact .inl (List.mem_of_mem_drop m)
/-- what is dealt out of each mark's due -/
theorem cut_take {xs : List PyData} {j : Int} (h0 : 0 ≤ j) : DL.cutD xs none (some j) = xs.take j.toNat := by
  unfold DL.cutD
  show (xs.drop 0).take ((if j < 0 then (j + (xs.length : Int)).toNat else min j.toNat xs.length) - 0) = _
  rw [if_neg (by omega), List.drop_zero, Nat.sub_zero]
  by_cases h : j.toNat ≤ xs.length
  · congr 1
    omega
  · rw [List.take_of_length_le (by omega), List.take_of_length_le (by omega)]
theorem cut_drop {xs : List PyData} {j : Int} (h0 : 0 ≤ j) : DL.cutD xs (some j) none = xs.drop j.toNat := by
  unfold DL.cutD
  show (xs.drop (if j < 0 then (j + (xs.length : Int)).toNat else min j.toNat xs.length)).take (xs.length - (if j < 0 then (j + (xs.length : Int)).toNat else min j.toNat xs.length)) = _
  rw [if_neg (by omega)]
  rw [List.take_of_length_le (by rw [List.length_drop]; omega)]
  by_cases h : j.toNat ≤ xs.length
  · congr 1; omega
  · rw [List.drop_eq_nil_of_le (by omega), List.drop_eq_nil_of_le (by omega)]
/-- a stream, a tally, a paper as they are handed to be looked at -/
theorem pw_nd {l : List Str} (h : l.Pairwise ltS) : l.Nodup := List.Pairwise.imp (S := fun a b => a ≠ b) (fun h => ltS_ne h) h
theorem marks_len {l : List Str} (h : l.Pairwise ltS) (hw : ∀ x ∈ l, x ∈ words) : l.length ≤ 26 := by
  have := nodup_len (pw_nd h) hw
  rw [words_len] at this
  exact this
theorem dues_len : ∀ {p : List Bn}, (∀ b ∈ p, b.1.length ≤ 26) → (dues p).length ≤ 26 * p.length
  | [], _ => by simp [dues]
  | b :: p, h => by
    have h1 := h b (by simp)
    have h2 := dues_len (p := p) fun c m => h c (by simp [m])
    rw [dues_cons, List.length_append, List.length_map, List.length_cons]
    omega
theorem dues_mem {p : List Bn} {q : Str × Int} (m : q ∈ dues p) : ∃ b ∈ p, q.1 ∈ b.1 ∧ q.2 = b.2 := by
  obtain ⟨b, mb, m⟩ := List.mem_flatMap.mp m
  obtain ⟨k, mk, rfl⟩ := List.mem_map.mp m
  exact ⟨b, mb, mk, rfl⟩
theorem put_mem : ∀ {l : List (Str × Int)} {k : Str} {v : Int} {q : Str × Int}, q ∈ put l k v → q ∈ l ∨ q = (k, v)
  | [], k, v, q, m => by simp [put] at m; exact .inr m
  | p :: l, k, v, q, m => by
    unfold put at m
    split at m
    · rename_i h
      rcases List.mem_cons.mp m with m | m
      · exact .inr (by rw [m, h])
      · obtain ⟨r, mr, e⟩ := List.mem_map.mp m
        split at e
        · rename_i hk
          exact .inr (by rw [← e, hk])
        · exact .inl (by rw [← e]; simp [mr])
    · rcases List.mem_cons.mp m with m | m
      · exact .inl (by simp [m])
      · rcases put_mem m with z | z
        · exact .inl (by simp [z])
        · exact .inr z
theorem pos_sums : ∀ {B A : List (Str × Int)}, (∀ q ∈ A, 1 ≤ q.2) → (∀ q ∈ B, 1 ≤ q.2) → ∀ q ∈ sums A B, 1 ≤ q.2
  | [], A, h, _ => h
  | p :: B, A, h, h2 => by
    refine pos_sums (B := B) (A := addM A p) (fun q m => ?_) fun q m => h2 q (by simp [m])
    rcases put_mem m with z | z
    · exact h q z
    · rw [z]
      have h3 := h2 p (by simp)
      show 1 ≤ (val A p.1).getD 0 + p.2
      cases e : val A p.1 with
      | none => show 1 ≤ 0 + p.2; omega
      | some v => have := h _ (mem_of_val e); show 1 ≤ v + p.2; simp at this; omega
theorem keys_dues {p : List Bn} {k : Str} : k ∈ (dues p).map (·.1) ↔ ∃ b ∈ p, k ∈ b.1 := by
  constructor
  · intro m
    obtain ⟨q, mq, rfl⟩ := List.mem_map.mp m
    obtain ⟨b, mb, mk, _⟩ := dues_mem mq
    exact ⟨b, mb, mk⟩
  · rintro ⟨b, mb, mk⟩
    exact List.mem_map.mpr ⟨(k, b.2), List.mem_flatMap.mpr ⟨b, mb, List.mem_map.mpr ⟨k, mk, rfl⟩⟩, rfl⟩
theorem ctr_rev (k : Str) : ∀ p : List Bn, ctr p.reverse k = ctr p k
  | [] => rfl
  | b :: p => by
    rw [List.reverse_cons, ctr_app, ctr_rev k p, ctr_cons, ctr_cons]
    show _ + (_ + 0) = _
    omega
end DL

set_option Elab.async false
set_option linter.all false
set_option maxRecDepth 100000
set_option maxHeartbeats 1000000
namespace DL
open PySem PySem.Spec PyProof.Rows L2
/-! ### unlike marks; tallies that hold for a stream -/
theorem dis_go : ∀ (xs acc : List Str), acc.Nodup → (xs.foldl disS acc).Nodup ∧ ∀ k, k ∈ xs.foldl disS acc ↔ k ∈ acc ∨ k ∈ xs
  | [], acc, h => ⟨h, fun k => by simp⟩
  | x :: xs, acc, h => by
    have e : disS acc x = if x ∈ acc then acc else acc ++ [x] := by
      unfold disS
      by_cases z : x ∈ acc
      · rw [if_pos z, if_pos (by simpa using z)]
      · rw [if_neg z, if_neg (by simpa using z)]
    have nd : (disS acc x).Nodup := by
      rw [e]
      by_cases z : x ∈ acc
      · rw [if_pos z]; exact h
      · rw [if_neg z]
        refine List.nodup_append.mpr ⟨h, by simp, fun a ha b hb => ?_⟩
        rw [List.mem_singleton.mp hb]
        exact fun e => z (e ▸ ha)
    obtain ⟨h1, h2⟩ := dis_go xs (disS acc x) nd
    refine ⟨h1, fun k => ?_⟩
    rw [List.foldl_cons, h2 k, e]
    by_cases z : x ∈ acc
    · rw [if_pos z]
      constructor
      · rintro (m | m)
        · exact .inl m
        · exact .inr (by simp [m])
      · rintro (m | m)
        · exact .inl m
        · rcases List.mem_cons.mp m with rfl | m
          · exact .inl z
          · exact .inr m
    · rw [if_neg z]; simp [or_assoc]
theorem dis_nd (xs : List Str) : (dis xs).Nodup := (dis_go xs [] (by simp)).1
theorem dis_mem (xs : List Str) (k : Str) : k ∈ dis xs ↔ k ∈ xs := by have := (dis_go xs [] (by simp)).2 k; unfold dis; simpa using this
def unlike (l : List Th) : Nat := (dis (l.map Th.mark)).length
theorem unlike_le {l m : List Th} (h : ∀ t ∈ l, t ∈ m) : unlike l ≤ unlike m := nodup_len (dis_nd _) fun k mk => by
  rw [dis_mem] at mk ⊢
  obtain ⟨t, mt, rfl⟩ := List.mem_map.mp mk
  exact List.mem_map.mpr ⟨t, h t mt, rfl⟩
theorem unlike_perm {l m : List Th} (h : l.Perm m) : unlike l = unlike m := Nat.le_antisymm (unlike_le fun t mt => h.mem_iff.mp mt) (unlike_le fun t mt => h.mem_iff.mpr mt)
theorem times_nn {k : Str} : ∀ {l : List Th}, Wd l → 0 ≤ times l k
  | [], _ => Int.le_refl _
  | t :: l, h => by
    have h1 := times_nn (k := k) (l := l) fun x m => h x (by simp [m])
    have h2 := (h t (by simp)).2
    rw [times_cons]
    split <;> omega
theorem times_pos {k : Str} : ∀ {l : List Th}, Wd l → (1 ≤ times l k ↔ k ∈ l.map Th.mark)
  | [], _ => by simp [times]
  | t :: l, h => by
    have hw : Wd l := fun x m => h x (by simp [m])
    have h1 := times_pos (k := k) hw
    have h0 := times_nn (k := k) hw
    have h2 := (h t (by simp)).2
    rw [times_cons, List.map_cons, List.mem_cons, ← h1]
    by_cases e : t.mark = k
    · rw [if_pos e]; exact ⟨fun _ => .inl e.symm, fun _ => by omega⟩
    · rw [if_neg e]
      exact ⟨fun z => .inr (by omega), fun z => z.elim (fun z => absurd z.symm e) fun z => by omega⟩
theorem things_perm {l m : List Th} (h : l.Perm m) : things l = things m := sum_perm (h.map _)
/-- a tally that holds for a stream, nothing let go while the marks fit -/
structure GoodT (r : Int) (T : Tl) (L : List Th) : Prop where
  fit : Tl.Fit r T
  holds : Holds T L
  tot : T.tot = things L
  wd : Wd L
  none : (unlike L : Int) ≤ r → T.lt = 0
theorem GoodT.mrg {r : Int} {T U : Tl} {l m : List Th} (f : GoodT r T l) (g : GoodT r U m) : GoodT r (T.mrg U) (l ++ m) := by
  have hw : Wd (l ++ m) := fun t mt => (List.mem_append.mp mt).elim (f.wd t) (g.wd t)
  refine ⟨f.fit.mrg g.fit, Holds.mrg f.fit g.fit f.holds g.holds, ?_, hw, fun hu => ?_⟩
  · rw [things_app, ← f.tot, ← g.tot]; rfl
  · have u1 : unlike l ≤ unlike (l ++ m) := unlike_le fun t mt => by simp [mt]
    have u2 : unlike m ≤ unlike (l ++ m) := unlike_le fun t mt => by simp [mt]
    have l1 := f.none (by omega)
    have l2 := g.none (by omega)
    have nd := sums_nd (B := U.cts) f.fit.rise.nd
    have c1 := sums_c1 f.fit.rise g.fit.rise f.fit.c1 g.fit.c1
    have hz : (sums T.cts U.cts).length ≤ unlike (l ++ m) := by
      have := nodup_len (b := dis ((l ++ m).map Th.mark)) nd fun k mk => by
        rw [dis_mem, ← times_pos hw]
        have e : (val (sums T.cts U.cts) k).getD 0 = T.ct k + U.ct k := by rw [getD_sums, tots_val g.fit.rise.nd]; rfl
        have h1 := (f.holds k).1
        have h2 := (g.holds k).1
        rw [times_app']
        have := mem_keys.mp mk
        cases hv : val (sums T.cts U.cts) k with
        | none => rw [hv] at this; cases this
        | some v =>
          have := c1 _ (mem_of_val hv)
          rw [hv] at e
          simp at e this
          omega
      rw [List.length_map] at this
      exact this
    have e : cutO T.room (sums T.cts U.cts) = 0 := if_pos (by rw [f.fit.room]; omega)
    show T.lt + U.lt + cutO T.room (sums T.cts U.cts) = 0
    rw [e, l1, l2]
    rfl
theorem GoodT.one {r : Int} (hr : 1 ≤ r ∧ r ≤ 20) {t : Th} (h : wordy t.mark = true ∧ 1 ≤ t.many) : GoodT r (Tl.one r t) [t] :=
  ⟨.one hr h.1 h.2, Holds.one r t, by simp [Tl.one, things], (fun x m => by rw [List.mem_singleton.mp m]; exact h), fun _ => rfl⟩
theorem GoodT.nil {r : Int} (hr : 1 ≤ r ∧ r ≤ 20) : GoodT r (Tl.none r) [] := ⟨.none hr, (fun k => ⟨Int.le_refl _, Int.le_refl _⟩), rfl, (fun x m => nomatch m), fun _ => rfl⟩
theorem GoodT.adds {r : Int} (hr : 1 ≤ r ∧ r ≤ 20) : ∀ {l : List Th} {T : Tl} {m : List Th}, GoodT r T m → Wd l → GoodT r (T.adds l) (m ++ l)
  | [], T, m, f, _ => by rw [List.append_nil]; exact f
  | t :: l, T, m, f, hw => by
    have ht := hw t (by simp)
    have g : GoodT r (Tl.one T.room t) [t] := by rw [f.fit.room]; exact .one hr ht
    have := GoodT.adds hr (l := l) (f.mrg g) fun x mx => hw x (by simp [mx])
    rw [List.append_assoc] at this
    exact this
theorem GoodT.strm {r : Int} (hr : 1 ≤ r ∧ r ≤ 20) {l : List Th} (h : Wd l) : GoodT r ((Tl.none r).adds l) l := GoodT.adds hr (.nil hr) h
theorem Tr.good {r : Int} (hr : 1 ≤ r ∧ r ≤ 20) : ∀ {t : Tr}, t.All Wd → GoodT r (t.tl r) t.strm
  | .leaf l, h => by
    have e : (Tr.leaf l).strm = l := by simp [Tr.strm, Tr.strs]
    rw [e]
    exact .strm hr h
  | .node a b, h => by
    have e : (Tr.node a b).strm = a.strm ++ b.strm := by simp [Tr.strm, Tr.strs]
    rw [e]
    exact GoodT.mrg (Tr.good hr h.1) (Tr.good hr h.2)
theorem GoodT.perm {r : Int} {T : Tl} {l m : List Th} (h : GoodT r T l) (p : l.Perm m) : GoodT r T m :=
  ⟨h.fit, fun k => by rw [← times_perm p]; exact h.holds k, by rw [← things_perm p]; exact h.tot, fun t mt => h.wd t (p.mem_iff.mpr mt), fun hu => h.none (by rw [unlike_perm p]; exact hu)⟩
theorem GoodT.full {r : Int} {T : Tl} {l : List Th} (h : GoodT r T l) (hu : (unlike l : Int) ≤ r) : T.cts.length = unlike l := by
  have z := h.none hu
  have hc : ∀ k, T.ct k = times l k := fun k => by have := h.holds k; omega
  have e : ∀ k, k ∈ T.cts.map (·.1) ↔ k ∈ dis (l.map Th.mark) := fun k => by
    rw [dis_mem, ← times_pos h.wd, ← hc k, mem_keys]
    cases hv : val T.cts k with
    | none => simp [Tl.ct, hv]
    | some v => have := h.fit.c1 _ (mem_of_val hv); simp [Tl.ct, hv]; simpa using this
  have a := nodup_len h.fit.rise.nd fun k mk => (e k).mp mk
  have b := nodup_len (dis_nd _) fun k mk => (e k).mpr mk
  rw [List.length_map] at a b
  unfold unlike
  omega
/-! ### trees turned about, with nothing, in another shape -/
def Tr.turn : Tr → Tr
  | .leaf l => .leaf l
  | .node a b => .node b.turn a.turn
theorem Tr.turn_all {p : List Th → Prop} : ∀ {t : Tr}, t.All p → t.turn.All p
  | .leaf _, h => h
  | .node _ _, h => ⟨Tr.turn_all h.2, Tr.turn_all h.1⟩
theorem Tr.turn_deep : ∀ t : Tr, t.turn.deep = t.deep
  | .leaf _ => rfl
  | .node a b => by show max b.turn.deep a.turn.deep + 1 = max a.deep b.deep + 1; rw [Tr.turn_deep a, Tr.turn_deep b, Nat.max_comm]
theorem Tr.turn_tl {r : Int} (hr : 1 ≤ r ∧ r ≤ 20) : ∀ {t : Tr}, t.All Wd → t.turn.tl r = t.tl r
  | .leaf _, _ => rfl
  | .node a b, h => by
    show (b.turn.tl r).mrg (a.turn.tl r) = (a.tl r).mrg (b.tl r)
    rw [Tr.turn_tl hr h.1, Tr.turn_tl hr h.2]
    have f := Tr.fit hr h.1
    have g := Tr.fit hr h.2
    exact Tl.mrg_comm (by rw [f.room, g.room]) g.rise f.rise
/-- with streams of no things merged in -/
inductive WithN : Tr → Tr → Prop
  | leaf {l : List Th} : WithN (.leaf l) (.leaf l)
  | node {a b c d : Tr} : WithN a c → WithN b d → WithN (.node a b) (.node c d)
  | lft {a b : Tr} : WithN a b → WithN a (.node (.leaf []) b)
  | rgt {a b : Tr} : WithN a b → WithN a (.node b (.leaf []))
theorem WithN.all {p : List Th → Prop} (h0 : p []) {a b : Tr} (h : WithN a b) : a.All p → b.All p := by
  induction h with
  | leaf => exact id
  | node _ _ h1 h2 => exact fun k => ⟨h1 k.1, h2 k.2⟩
  | lft _ h1 => exact fun k => ⟨h0, h1 k⟩
  | rgt _ h1 => exact fun k => ⟨h1 k, h0⟩
theorem WithN.tl {r : Int} (hr : 1 ≤ r ∧ r ≤ 20) {a b : Tr} (h : WithN a b) : a.All Wd → things a.strm < 100000000000000000000 → b.tl r = a.tl r := by
  have tn : ∀ {l : List Th}, Wd l → 0 ≤ things l := fun {l} h => by
    have := (GoodT.strm hr h).fit.bds.2.2.2
    rw [(GoodT.strm hr h).tot] at this
    exact this
  have nn : (Tr.leaf []).tl r = Tl.none r := rfl
  have ok : ∀ {a : Tr}, a.All Wd → things a.strm < 100000000000000000000 → Tl.Ok (a.tl r) := fun {a} ha hs => (Tr.fit hr ha).ok (by rw [Tr.tot]; exact hs)
  induction h with
  | leaf => exact fun _ _ => rfl
  | @node a b c d _ _ h1 h2 =>
    intro k hs
    have e : (Tr.node a b).strm = a.strm ++ b.strm := by simp [Tr.strm, Tr.strs]
    rw [e, things_app] at hs
    have t1 := tn (wd_strm k.1)
    have t2 := tn (wd_strm k.2)
    show (c.tl r).mrg (d.tl r) = (a.tl r).mrg (b.tl r)
    rw [h1 k.1 (by omega), h2 k.2 (by omega)]
  | @lft a b _ h1 =>
    intro k hs
    show (Tl.none r).mrg (b.tl r) = a.tl r
    rw [h1 k hs]
    have f := Tr.fit hr k
    rw [Tl.mrg_comm (T := Tl.none r) (U := a.tl r) (by rw [f.room]; rfl) List.Pairwise.nil f.rise]
    exact Tl.mrg_none (ok k hs) r
  | @rgt a b _ h1 =>
    intro k hs
    show (b.tl r).mrg (Tl.none r) = a.tl r
    rw [h1 k hs]
    exact Tl.mrg_none (ok k hs) r
theorem Tr.strs_len : ∀ t : Tr, t.strs.length = t.parts
  | .leaf _ => rfl
  | .node a b => by show (a.strs ++ b.strs).length = a.parts + b.parts; rw [List.length_append, Tr.strs_len a, Tr.strs_len b]
theorem Tr.all_strs {p : List Th → Prop} : ∀ {t : Tr}, t.All p ↔ ∀ l ∈ t.strs, p l
  | .leaf l => by show p l ↔ ∀ x ∈ [l], p x; simp
  | .node a b => by
    show a.All p ∧ b.All p ↔ ∀ l ∈ a.strs ++ b.strs, p l
    rw [Tr.all_strs (t := a), Tr.all_strs (t := b)]
    simp only [List.mem_append]
    exact ⟨fun h l m => m.elim (h.1 l) (h.2 l), fun h => ⟨fun l m => h l (.inl m), fun l m => h l (.inr m)⟩⟩
/-- the streams of trees -/
def strsT (ts : List Tr) : List (List Th) := (ts.map Tr.strs).flatten
theorem strsT_ins (ts : List Tr) (t : Tr) (j : Nat) : (strsT (ts.take j ++ [t] ++ ts.drop j)).Perm (strsT ts ++ t.strs) := by
  have e : strsT ts = strsT (ts.take j) ++ strsT (ts.drop j) := by unfold strsT; rw [← List.flatten_append, ← List.map_append, List.take_append_drop]
  have e2 : strsT (ts.take j ++ [t] ++ ts.drop j) = strsT (ts.take j) ++ t.strs ++ strsT (ts.drop j) := by simp [strsT]
  rw [e, e2, List.append_assoc, List.append_assoc]
  exact List.perm_append_comm.append_left _
theorem strsT_pop (ts : List Tr) (j : Nat) (h : j < ts.length) : (strsT ts).Perm (strsT (ts.eraseIdx j) ++ ts[j].strs) := by
  have e : ts = (ts.eraseIdx j).take j ++ [ts[j]] ++ (ts.eraseIdx j).drop j := by
    have hl : (ts.take j).length = j := by rw [List.length_take]; omega
    have e1 : (ts.eraseIdx j).take j = ts.take j := by rw [List.eraseIdx_eq_take_drop_succ, List.take_left' hl]
    have e2 : (ts.eraseIdx j).drop j = ts.drop (j + 1) := by rw [List.eraseIdx_eq_take_drop_succ, List.drop_left' hl]
    rw [e1, e2, List.append_assoc, List.singleton_append, ← List.drop_eq_getElem_cons h, List.take_append_drop]
  have := strsT_ins (ts.eraseIdx j) ts[j] j
  rw [← e] at this
  exact this
theorem strsT_set (ts : List Tr) (j : Nat) (h : j < ts.length) (t : Tr) : (strsT (ts.set j (.node ts[j] t))).Perm (strsT ts ++ t.strs) := by
  have e : strsT ts = strsT (ts.take j) ++ (ts[j].strs ++ strsT (ts.drop (j + 1))) := by
    have e0 : ts = ts.take j ++ ts[j] :: ts.drop (j + 1) := by rw [← List.drop_eq_getElem_cons h, List.take_append_drop]
    have := congrArg strsT e0
    unfold strsT at this ⊢
    rw [List.map_append, List.flatten_append, List.map_cons, List.flatten_cons] at this
    exact this
  have e2 : strsT (ts.set j (.node ts[j] t)) = strsT (ts.take j) ++ ((ts[j].strs ++ t.strs) ++ strsT (ts.drop (j + 1))) := by
    rw [List.set_eq_take_append_cons_drop, if_pos h]
    simp [strsT, Tr.strs]
  rw [e, e2, List.append_assoc, List.append_assoc, List.append_assoc]
  exact (List.perm_append_comm.append_left _).append_left _
def ShI (k : Nat) (ss : List (List Th)) (s3 : Sl) (z : Nat) (δ : List Sl) : Prop := ∃ (ts : List Tr) (d' : PyData) (k' : Nat) (s4 s5 : Sl), (strsT ts).Perm ss ∧ ts.length = z + 1 ∧ Pen d' k' ∧ k' + 2 * z ≤ k + 3 * ss.length ∧ Pl s4 ∧ Pl s5 ∧ z < 20 ∧ δ = [.io 0 d', .sh (.list (ss.map St)), .ow (.list (ts.map Tr.d)), s3, s4, s5]
end DL

set_option Elab.async false
set_option linter.all false
set_option maxRecDepth 100000
set_option maxHeartbeats 4000000
namespace K10
open PySem PySem.Spec PyProof.Rows L2 DL
/-! ### the text, its mirror and what keeps it (printed by gen.py) -/
def topS (i : Nat) : Stmt := PySem.Challenge.pw_sumshare_k10_whole_shapes_and_sides.main.body.getD i (.Pass ⟨0, 0, 0, 0⟩)
def clG (K : PySem.W.Frag) : Str → Value := fun x => .ref (He.ga K x)
def errE : List Str := ["NoRoom"]
def errX : List Str := []
abbrev s_sums_of : Stmt := topS 1
abbrev N_sums_of : List Str := ["one", "other", "sums", "mark", "count"]
theorem sc_sums_of : FnScope N_sums_of ["one", "other"] (defScope s_sums_of) := ⟨rfl, rfl, rfl, by decide +kernel, rfl, by decide +kernel, by decide +kernel⟩
def m_sums_of_3 : SM :=
  (setS (mBin gAdd (mGet (rdM 2) (rdM 3) (cM (.int 0))) (rdM 4)) (subG 2 (rdM 3) sDict))
def m_sums_of_4 : SM :=
  (retS (takeM 2))
def m_sums_of_2 : SM :=
  (seqS (forS (itemsM (mBin gAdd (mBin gIx (rdM 0) (cM (.int 1))) (mBin gIx (rdM 1) (cM (.int 1))))) (tupG 2 (consG (nameG 3) (consG (nameG 4) nilG))) m_sums_of_3) m_sums_of_4)
def m_sums_of : SM :=
  (seqS (setS dictM (nameG 2)) m_sums_of_2)
def F_sums_of : List PyData → FRes := fun ds => if ds.length = 2 then runP 5 m_sums_of ds else .no
theorem ok_sums_of {P : Program} {w : World} {K : PySem.W.Frag} {mg : Str → Option Value} {base : Heap} {f : Addr} {fd : FuncData} (FD : FunD K "sums_of" "sums_of" (defArgs s_sums_of) (defBody s_sums_of) (defScope s_sums_of) [] [] f fd)
    : FnOk P w K mg base (L2.CX P w) 1 f fd ["one", "other"] (spP K (clG K) F_sums_of) := by
  refine fn_P (m := m_sums_of) FD sc_sums_of (fun ds h => ifP_len ds h) (fun ds h => ifP_eq ds h) fun cdv A outer s H E hr => ?_
  exact (ds_cons (ds_set (i := 2) sc_sums_of.nd rfl (by first | exact Or.inl rfl | exact Or.inr rfl) d_dictK)
      (ds_cons (ds_for (passes_of rfl) rfl (di_seq (d_bin op_addA i_add (d_ix ix_seq i_ix (pv_rd 0) dint (fun _ _ => rfl)) (d_ix ix_seq i_ix (pv_rd 1) dint (fun _ _ => rfl)))) (dg_tup rfl (dgs_cons (dg_name (i := 3) sc_sums_of.nd rfl (by first | exact Or.inl rfl | exact Or.inr rfl)) (dgs_cons (dg_name (i := 4) sc_sums_of.nd rfl (by first | exact Or.inl rfl | exact Or.inr rfl)) dgs_nil)))
      (ds_one (ds_asg (d_bin op_addA i_add (d_dgetOr (hu_of hr) (pv_rd 2) (pv_rd 3) dint) (pv_rd 4)) (dg_sub (pv_own 2) (pv_rd 3) (set_dict (hu_of hr)) is_dict))))
      (ds_one (ds_ret (pv_take 2)))))
abbrev s_cut_of : Stmt := topS 2
abbrev N_cut_of : List Str := ["room", "sums"]
theorem sc_cut_of : FnScope N_cut_of ["room", "sums"] (defScope s_cut_of) := ⟨rfl, rfl, rfl, by decide +kernel, rfl, by decide +kernel, by decide +kernel⟩
def m_cut_of_3 : SM :=
  (retS (mBin gIx (mUn gSortV (rdM 1)) (mBin gSub (mBin gSub (mCall gLenD (mCons (rdM 1) mNil)) (rdM 0)) (cM (.int 1)))))
def m_cut_of : SM :=
  (seqS (ifS (tst (mBin gLe (mCall gLenD (mCons (rdM 1) mNil)) (rdM 0))) (retS (cM (.int 0))) nextS) m_cut_of_3)
def F_cut_of : List PyData → FRes := fun ds => if ds.length = 2 then runP 2 m_cut_of ds else .no
theorem ok_cut_of {P : Program} {w : World} {K : PySem.W.Frag} {mg : Str → Option Value} {base : Heap} {f : Addr} {fd : FuncData} (FD : FunD K "cut_of" "cut_of" (defArgs s_cut_of) (defBody s_cut_of) (defScope s_cut_of) [] [] f fd)
    (z_len : mg "len" = none)
    (z_sorted : mg "sorted" = none)
    : FnOk P w K mg base (L2.CX P w) 1 f fd ["room", "sums"] (spP K (clG K) F_cut_of) := by
  refine fn_P (m := m_cut_of) FD sc_cut_of (fun ds h => ifP_len ds h) (fun ds h => ifP_eq ds h) fun cdv A outer s H E hr => ?_
  exact (ds_cons (ds_if (dt_cmp op_leA i_le (d_callB call_lenR i_lenD rfl z_len (by decide +kernel) (d_cons (pv_rd 1) d_nil)) (pv_rd 0) (nomark _))
      (ds_one (ds_ret dint))
      ds_nil)
      (ds_one (ds_ret (d_ix ix_seq i_ix (d_sortV rfl rfl z_sorted (pv_rd 1)) (d_bin op_sub i_sub (d_bin op_sub i_sub (d_callB call_lenR i_lenD rfl z_len (by decide +kernel) (d_cons (pv_rd 1) d_nil)) (pv_rd 0)) dint) (fun _ _ => rfl)))))
abbrev s_empty_tally : Stmt := topS 9
abbrev N_empty_tally : List Str := ["room"]
theorem sc_empty_tally : FnScope N_empty_tally ["room"] (defScope s_empty_tally) := ⟨rfl, rfl, rfl, by decide +kernel, rfl, by decide +kernel, by decide +kernel⟩
def m_empty_tally : SM :=
  (retS ((mCons (varM 0) (mCons (mNil >>= tupM) (mCons (cM (.int 0)) (mCons (cM (.int 0)) mNil)))) >>= tupM))
def F_empty_tally : List PyData → FRes := fun ds => if ds.length = 1 then runP 1 m_empty_tally ds else .no
theorem ok_empty_tally {P : Program} {w : World} {K : PySem.W.Frag} {mg : Str → Option Value} {base : Heap} {f : Addr} {fd : FuncData} (FD : FunD K "empty_tally" "empty_tally" (defArgs s_empty_tally) (defBody s_empty_tally) (defScope s_empty_tally) [] [] f fd)
    : FnOk P w K mg base (L2.CX P w) 1 f fd ["room"] (spP K (clG K) F_empty_tally) := by
  refine fn_P (m := m_empty_tally) FD sc_empty_tally (fun ds h => ifP_len ds h) (fun ds h => ifP_eq ds h) fun cdv A outer s H E hr => ?_
  exact (ds_one (ds_ret (d_tup (d_cons (pv_esc 0) (d_cons (d_tup d_nil) (d_cons dint (d_cons dint d_nil)))))))
abbrev s_thing_tally : Stmt := topS 10
abbrev N_thing_tally : List Str := ["room", "thing"]
theorem sc_thing_tally : FnScope N_thing_tally ["room", "thing"] (defScope s_thing_tally) := ⟨rfl, rfl, rfl, by decide +kernel, rfl, by decide +kernel, by decide +kernel⟩
def m_thing_tally : SM :=
  (retS ((mCons (varM 0) (mCons ((mCons ((mCons (mBin gIx (rdM 1) (cM (.int 1))) (mCons (mBin gIx (rdM 1) (cM (.int 3))) mNil)) >>= tupM) mNil) >>= tupM) (mCons (cM (.int 0)) (mCons (mBin gIx (rdM 1) (cM (.int 3))) mNil)))) >>= tupM))
def F_thing_tally : List PyData → FRes := fun ds => if ds.length = 2 then runP 2 m_thing_tally ds else .no
theorem ok_thing_tally {P : Program} {w : World} {K : PySem.W.Frag} {mg : Str → Option Value} {base : Heap} {f : Addr} {fd : FuncData} (FD : FunD K "thing_tally" "thing_tally" (defArgs s_thing_tally) (defBody s_thing_tally) (defScope s_thing_tally) [] [] f fd)
    : FnOk P w K mg base (L2.CX P w) 1 f fd ["room", "thing"] (spP K (clG K) F_thing_tally) := by
  refine fn_P (m := m_thing_tally) FD sc_thing_tally (fun ds h => ifP_len ds h) (fun ds h => ifP_eq ds h) fun cdv A outer s H E hr => ?_
  exact (ds_one (ds_ret (d_tup (d_cons (pv_esc 0) (d_cons (d_tup (d_cons (d_tup (d_cons (d_ix ix_seq i_ix (pv_rd 1) dint (fun _ _ => rfl)) (d_cons (d_ix ix_seq i_ix (pv_rd 1) dint (fun _ _ => rfl)) d_nil))) d_nil)) (d_cons dint (d_cons (d_ix ix_seq i_ix (pv_rd 1) dint (fun _ _ => rfl)) d_nil)))))))
abbrev s_count_in : Stmt := topS 14
abbrev N_count_in : List Str := ["tally", "mark"]
theorem sc_count_in : FnScope N_count_in ["tally", "mark"] (defScope s_count_in) := ⟨rfl, rfl, rfl, by decide +kernel, rfl, by decide +kernel, by decide +kernel⟩
def m_count_in : SM :=
  (retS (mGet (mCall gDictP (mCons (mBin gIx (rdM 0) (cM (.int 1))) mNil)) (rdM 1) (cM (.int 0))))
def F_count_in : List PyData → FRes := fun ds => if ds.length = 2 then runP 2 m_count_in ds else .no
theorem ok_count_in {P : Program} {w : World} {K : PySem.W.Frag} {mg : Str → Option Value} {base : Heap} {f : Addr} {fd : FuncData} (FD : FunD K "count_in" "count_in" (defArgs s_count_in) (defBody s_count_in) (defScope s_count_in) [] [] f fd)
    (z_dict : mg "dict" = none)
    : FnOk P w K mg base (L2.CX P w) 1 f fd ["tally", "mark"] (spP K (clG K) F_count_in) := by
  refine fn_P (m := m_count_in) FD sc_count_in (fun ds h => ifP_len ds h) (fun ds h => ifP_eq ds h) fun cdv A outer s H E hr => ?_
  exact (ds_one (ds_ret (d_dgetOr (hu_of hr) (d_callTy (call_dictPA rfl) i_dictP rfl z_dict (by decide +kernel) (d_cons (d_ix ix_seq i_ix (pv_rd 0) dint (fun _ _ => rfl)) d_nil)) (pv_rd 1) dint)))
abbrev s_L_pen : Stmt := topS 17
abbrev N_L_pen : List Str := ["_law_script", "_law_k", "_law_cell"]
theorem sc_L_pen : FnScope N_L_pen ["_law_script", "_law_k"] (defScope s_L_pen) := ⟨rfl, rfl, rfl, by decide +kernel, rfl, by decide +kernel, by decide +kernel⟩
def m_L_pen_8 : SM :=
  (retS ((mCons (cM (.int 0)) (mCons (mBin gAdd (mBin gMod (rdM 2) (cM (.int 2147483587))) (mBin gMulB (cM (.int 2147483629)) (rdM 1))) (mCons (cM (.int 0)) mNil))) >>= lstM))
def m_L_pen_6 : SM :=
  (seqS (ifS (tst (mBin gGeA (rdM 2) (mBin gPow (cM (.int 10)) (cM (.int 18))))) (retS ((mCons (mBin gSub (rdM 2) (mBin gPow (cM (.int 10)) (cM (.int 18)))) (mCons (mBin gMod (rdM 2) (cM (.int 2147483587))) (mCons (cM (.int 0)) mNil))) >>= lstM)) nextS) m_L_pen_8)
def m_L_pen_2 : SM :=
  (seqS (ifS (tst (mBin gLt (rdM 1) (mCall gLen (mCons (rdM 0) mNil)))) (setS (mBin gIx (rdM 0) (rdM 1)) (nameG 2)) (ifS (tst (mBin gGt (mCall gLen (mCons (rdM 0) mNil)) (cM (.int 0)))) (setS (mBin gAdd (mBin gIx (rdM 0) (mBin gMod (rdM 1) (mCall gLen (mCons (rdM 0) mNil)))) (mBin gMulB (cM (.int 48271)) (rdM 1))) (nameG 2)) nextS)) m_L_pen_6)
def m_L_pen : SM :=
  (seqS (setS (mBin gAdd (mBin gMulB (cM (.int 7919)) (rdM 1)) (cM (.int 5))) (nameG 2)) m_L_pen_2)
def F_L_pen : List PyData → FRes := fun ds => if ds.length = 2 then runP 3 m_L_pen ds else .no
theorem ok_L_pen {P : Program} {w : World} {K : PySem.W.Frag} {mg : Str → Option Value} {base : Heap} {f : Addr} {fd : FuncData} (FD : FunD K "_law_pen" "_law_pen" (defArgs s_L_pen) (defBody s_L_pen) (defScope s_L_pen) [] [] f fd)
    (z_len : mg "len" = none)
    : FnOk P w K mg base (L2.CX P w) 1 f fd ["_law_script", "_law_k"] (spP K (clG K) F_L_pen) := by
  refine fn_P (m := m_L_pen) FD sc_L_pen (fun ds h => ifP_len ds h) (fun ds h => ifP_eq ds h) fun cdv A outer s H E hr => ?_
  exact (ds_cons (ds_set (i := 2) sc_L_pen.nd rfl (by first | exact Or.inl rfl | exact Or.inr rfl) (d_bin op_addA i_add (d_bin op_mulB i_mulB dint (pv_rd 1)) dint))
      (ds_cons (ds_if (dt_cmp (op_ltA hr.units) i_lt (pv_rd 1) (d_callB call_lenA i_len rfl z_len (by decide +kernel) (d_cons (pv_rd 0) d_nil)) (nomark _))
      (ds_one (ds_set (i := 2) sc_L_pen.nd rfl (by first | exact Or.inl rfl | exact Or.inr rfl) (d_ix ix_seq i_ix (pv_rd 0) (pv_rd 1) (fun _ _ => rfl))))
      (ds_one (ds_if (dt_cmp op_gt i_gt (d_callB call_lenA i_len rfl z_len (by decide +kernel) (d_cons (pv_rd 0) d_nil)) dint (nomark _))
      (ds_one (ds_set (i := 2) sc_L_pen.nd rfl (by first | exact Or.inl rfl | exact Or.inr rfl) (d_bin op_addA i_add (d_ix ix_seq i_ix (pv_rd 0) (d_bin op_mod i_mod (pv_rd 1) (d_callB call_lenA i_len rfl z_len (by decide +kernel) (d_cons (pv_rd 0) d_nil))) (fun _ _ => rfl)) (d_bin op_mulB i_mulB dint (pv_rd 1)))))
      ds_nil)))
      (ds_cons (ds_if (dt_cmp op_geA i_geA (pv_rd 2) (d_bin op_pow i_pow dint dint) (nomark _))
      (ds_one (ds_ret (d_lst (d_cons (d_bin op_sub i_sub (pv_rd 2) (d_bin op_pow i_pow dint dint)) (d_cons (d_bin op_mod i_mod (pv_rd 2) dint) (d_cons dint d_nil))))))
      ds_nil)
      (ds_one (ds_ret (d_lst (d_cons dint (d_cons (d_bin op_addA i_add (d_bin op_mod i_mod (pv_rd 2) dint) (d_bin op_mulB i_mulB dint (pv_rd 1))) (d_cons dint d_nil)))))))))
abbrev s_L_draw : Stmt := topS 18
abbrev N_L_draw : List Str := ["_law_pen_here", "_law_size", "_law_number", "_law_drawn"]
theorem sc_L_draw : FnScope N_L_draw ["_law_pen_here", "_law_size"] (defScope s_L_draw) := ⟨rfl, rfl, rfl, by decide +kernel, rfl, by decide +kernel, by decide +kernel⟩
def m_L_draw_5 : SM :=
  (retS (takeM 3))
def m_L_draw_4 : SM :=
  (seqS (setS (mBin gDiv (mBin gIx (rdM 0) (cM (.int 0))) (rdM 1)) (subG 0 (cM (.int 0)) sAt)) m_L_draw_5)
def m_L_draw_8 : SM :=
  (retS (mBin gMod (mBin gDiv (mBin gMod (mBin gMulB (rdM 2) (mBin gAdd (mBin gMod (rdM 2) (cM (.int 8191))) (cM (.int 7)))) (cM (.int 2147483563))) (cM (.int 3))) (rdM 1)))
def m_L_draw_7 : SM :=
  (seqS (setS (mBin gMod (mBin gMulB (rdM 2) (mBin gAdd (mBin gAdd (mBin gMod (rdM 2) (cM (.int 65521))) (mBin gIx (rdM 0) (cM (.int 2)))) (cM (.int 3)))) (cM (.int 2147483629))) (nameG 2)) m_L_draw_8)
def m_L_draw_6 : SM :=
  (seqS (setS (mBin gMod (mBin gMulB (mBin gAdd (mBin gAdd (mBin gIx (rdM 0) (cM (.int 1))) (mBin gMulB (cM (.int 40503)) (mBin gIx (rdM 0) (cM (.int 2))))) (cM (.int 1))) (cM (.int 48271))) (cM (.int 2147483647))) (nameG 2)) m_L_draw_7)
def m_L_draw_2 : SM :=
  (seqS (ifS (tst (mBin gGt (mBin gIx (rdM 0) (cM (.int 0))) (cM (.int 0)))) (seqS (setS (mBin gMod (mBin gIx (rdM 0) (cM (.int 0))) (rdM 1)) (nameG 3)) m_L_draw_4) nextS) m_L_draw_6)
def m_L_draw : SM :=
  (seqS (setS (mBin gAdd (mBin gIx (rdM 0) (cM (.int 2))) (cM (.int 1))) (subG 0 (cM (.int 2)) sAt)) m_L_draw_2)
def F_L_draw : PyData → List PyData → FRes := fun d ds => if ds.length + 1 = 2 then runI 4 m_L_draw d ds else .no
theorem ok_L_draw {P : Program} {w : World} {K : PySem.W.Frag} {mg : Str → Option Value} {base : Heap} {f : Addr} {fd : FuncData} (FD : FunD K "_law_draw" "_law_draw" (defArgs s_L_draw) (defBody s_L_draw) (defScope s_L_draw) [] [] f fd)
    : FnOk P w K mg base (L2.CX P w) 1 f fd ["_law_pen_here", "_law_size"] (spI K (clG K) F_L_draw) := by
  refine fn_I (m := m_L_draw) FD sc_L_draw (fun d ds h => ifI_len d ds h) (fun d ds h => ifI_eq d ds h) fun cdv A outer s H E hr => ?_
  exact (ds_cons (ds_asg (d_bin op_addA i_add (d_ix ix_seq i_ix (pv_rd 0) dint (fun _ _ => rfl)) dint) (dg_sub (pv_own 0) dint set_list is_list))
      (ds_cons (ds_if (dt_cmp op_gt i_gt (d_ix ix_seq i_ix (pv_rd 0) dint (fun _ _ => rfl)) dint (nomark _))
      (ds_cons (ds_set (i := 3) sc_L_draw.nd rfl (by first | exact Or.inl rfl | exact Or.inr rfl) (d_bin op_mod i_mod (d_ix ix_seq i_ix (pv_rd 0) dint (fun _ _ => rfl)) (pv_rd 1)))
      (ds_cons (ds_asg (d_bin op_fdivW i_div (d_ix ix_seq i_ix (pv_rd 0) dint (fun _ _ => rfl)) (pv_rd 1)) (dg_sub (pv_own 0) dint set_list is_list))
      (ds_one (ds_ret (pv_take 3)))))
      ds_nil)
      (ds_cons (ds_set (i := 2) sc_L_draw.nd rfl (by first | exact Or.inl rfl | exact Or.inr rfl) (d_bin op_mod i_mod (d_bin op_mulB i_mulB (d_bin op_addA i_add (d_bin op_addA i_add (d_ix ix_seq i_ix (pv_rd 0) dint (fun _ _ => rfl)) (d_bin op_mulB i_mulB dint (d_ix ix_seq i_ix (pv_rd 0) dint (fun _ _ => rfl)))) dint) dint) dint))
      (ds_cons (ds_set (i := 2) sc_L_draw.nd rfl (by first | exact Or.inl rfl | exact Or.inr rfl) (d_bin op_mod i_mod (d_bin op_mulB i_mulB (pv_rd 2) (d_bin op_addA i_add (d_bin op_addA i_add (d_bin op_mod i_mod (pv_rd 2) dint) (d_ix ix_seq i_ix (pv_rd 0) dint (fun _ _ => rfl))) dint)) dint))
      (ds_one (ds_ret (d_bin op_mod i_mod (d_bin op_fdivW i_div (d_bin op_mod i_mod (d_bin op_mulB i_mulB (pv_rd 2) (d_bin op_addA i_add (d_bin op_mod i_mod (pv_rd 2) dint) dint)) dint) dint) (pv_rd 1))))))))
abbrev s_L_word : Stmt := topS 19
abbrev N_L_word : List Str := ["_law_pen_here", "_law_k", "_law_some"]
theorem sc_L_word : FnScope N_L_word ["_law_pen_here", "_law_k"] (defScope s_L_word) := ⟨rfl, rfl, rfl, by decide +kernel, rfl, by decide +kernel, by decide +kernel⟩
def m_L_word_3 : SM :=
  (retS (mBin gIx (mMeth "str" gSplit (rdM 2) (mCons (cM (.str " ")) mNil)) (mBin gMod (rdM 1) (cM (.int 26)))))
def m_L_word_2 : SM :=
  (seqS (setS (mBin gAdd (rdM 2) (cM (.str "qae acb ae abcdefg z qq aea az abcd xabcd eae abce eq"))) (nameG 2)) m_L_word_3)
def m_L_word : SM :=
  (seqS (setS (cM (.str "q abcdefgh aq qa abcdefgi ea zz eaq abd abc e bcdefgh za ")) (nameG 2)) m_L_word_2)
def F_L_word : List PyData → FRes := fun ds => if ds.length = 2 then runP 3 m_L_word ds else .no
theorem ok_L_word {P : Program} {w : World} {K : PySem.W.Frag} {mg : Str → Option Value} {base : Heap} {f : Addr} {fd : FuncData} (FD : FunD K "_law_word" "_law_word" (defArgs s_L_word) (defBody s_L_word) (defScope s_L_word) [] [] f fd)
    : FnOk P w K mg base (L2.CX P w) 1 f fd ["_law_pen_here", "_law_k"] (spP K (clG K) F_L_word) := by
  refine fn_P (m := m_L_word) FD sc_L_word (fun ds h => ifP_len ds h) (fun ds h => ifP_eq ds h) fun cdv A outer s H E hr => ?_
  exact (ds_cons (ds_set (i := 2) sc_L_word.nd rfl (by first | exact Or.inl rfl | exact Or.inr rfl) dstr)
      (ds_cons (ds_set (i := 2) sc_L_word.nd rfl (by first | exact Or.inl rfl | exact Or.inr rfl) (d_bin op_addA i_add (pv_rd 2) dstr))
      (ds_one (ds_ret (d_ix ix_seq i_ix (d_meth PySem.F.plainAttrs_str PySem.F.slot_str_split PySem.F.type_str_split mt_split im_split (pv_rd 2) (d_cons dstr d_nil)) (d_bin op_mod i_mod (pv_rd 1) dint) (fun _ _ => rfl))))))
abbrev s_L_times : Stmt := topS 26
abbrev N_L_times : List Str := ["_law_stream_here", "_law_mark", "_law_thing_here"]
theorem sc_L_times : FnScope N_L_times ["_law_stream_here", "_law_mark"] (defScope s_L_times) := ⟨rfl, rfl, rfl, by decide +kernel, rfl, by decide +kernel, by decide +kernel⟩
def m_L_times : SM :=
  (retS (mCall gSum (mCons (lcM (itemsM (varM 0)) (nameG 2) (tst (mBin gEq (mBin gIx (rdM 2) (cM (.int 1))) (rdM 1))) (mBin gIx (rdM 2) (cM (.int 3))) [2]) mNil)))
def F_L_times : List PyData → FRes := fun ds => if ds.length = 2 then runP 3 m_L_times ds else .no
theorem ok_L_times {P : Program} {w : World} {K : PySem.W.Frag} {mg : Str → Option Value} {base : Heap} {f : Addr} {fd : FuncData} (FD : FunD K "_law_times" "_law_times" (defArgs s_L_times) (defBody s_L_times) (defScope s_L_times) [] [] f fd)
    (z_sum : mg "sum" = none)
    : FnOk P w K mg base (L2.CX P w) 1 f fd ["_law_stream_here", "_law_mark"] (spP K (clG K) F_L_times) := by
  refine fn_P (m := m_L_times) FD sc_L_times (fun ds h => ifP_len ds h) (fun ds h => ifP_eq ds h) fun cdv A outer s H E hr => ?_
  exact (ds_one (ds_ret (d_callB (cr_sum rfl) i_sum rfl z_sum (by decide +kernel) (d_cons (d_lc (own := [("_law_thing_here", 2)]) rfl sc_L_times.nd (di_seq (pv_esc 0)) (blkOk_by (N := N_L_times) (sc := defScope s_L_times) (by decide +kernel)) (by decide) (fun _ _ _ _ _ => (dg_name (i := 2) sc_L_times.nd rfl (by first | exact Or.inl rfl | exact Or.inr rfl))) (fun _ _ _ _ _ => (dts_one (dt_cmp (op_eqA hr.units) i_eq (d_ix ix_seq i_ix (pv_rd 2) dint (fun _ _ => rfl)) (pv_rd 1) (nomark _)))) (fun _ _ _ _ _ => (d_ix ix_seq i_ix (pv_rd 2) dint (fun _ _ => rfl)))) d_nil))))
abbrev s_merged_tally : Stmt := topS 11
abbrev N_merged_tally : List Str := ["one", "other", "sums", "cut", "counts", "mark"]
theorem sc_merged_tally : FnScope N_merged_tally ["one", "other"] (defScope s_merged_tally) := ⟨rfl, rfl, rfl, by decide +kernel, rfl, by decide +kernel, by decide +kernel⟩
def m_merged_tally_6 : SM :=
  (retS ((mCons (mBin gIx (rdM 0) (cM (.int 0))) (mCons (varM 4) (mCons (mBin gAdd (mBin gAdd (mBin gIx (rdM 0) (cM (.int 2))) (mBin gIx (rdM 1) (cM (.int 2)))) (rdM 3)) (mCons (mBin gAdd (mBin gIx (rdM 0) (cM (.int 3))) (mBin gIx (rdM 1) (cM (.int 3)))) mNil)))) >>= tupM))
def m_merged_tally_5 : SM :=
  (seqS (setS (mCall gTuple (mCons (lcM (itemsM (mCall gSortD (mCons (rdM 2) mNil))) (nameG 5) (tst (mBin gGt (mBin gDGet (rdM 2) (rdM 5)) (rdM 3))) ((mCons (varM 5) (mCons (mBin gSub (mBin gDGet (rdM 2) (rdM 5)) (rdM 3)) mNil)) >>= tupM) [5]) mNil)) (nameG 4)) m_merged_tally_6)
def m_merged_tally_4 : SM :=
  (seqS (setS ((mCons (mBin gIx (rdM 0) (cM (.int 0))) (mCons (varM 2) mNil)) >>= callP F_cut_of) (nameG 3)) m_merged_tally_5)
def m_merged_tally_3 : SM :=
  (seqS (setS ((mCons (varM 0) (mCons (varM 1) mNil)) >>= callP F_sums_of) (nameG 2)) m_merged_tally_4)
def m_merged_tally : SM :=
  (seqS (ifS (tst (mBin gNe (mBin gIx (rdM 0) (cM (.int 0))) (mBin gIx (rdM 1) (cM (.int 0))))) (raiseS "NoRoom") nextS) m_merged_tally_3)
def F_merged_tally : List PyData → FRes := fun ds => if ds.length = 2 then runP 6 m_merged_tally ds else .no
theorem ok_merged_tally {P : Program} {w : World} {K : PySem.W.Frag} {mg : Str → Option Value} {base : Heap} {f : Addr} {fd : FuncData} (FD : FunD K "merged_tally" "merged_tally" (defArgs s_merged_tally) (defBody s_merged_tally) (defScope s_merged_tally) [] [] f fd)
    (c_NoRoom : mg "NoRoom" = some (.ref (He.ga K "NoRoom")))
    (x_NoRoom : PySem.W.excIn K (He.ga K "NoRoom") He.veBase "ValueError.__new__" = true ∧ PySem.W.keepIn K (.ref (He.ga K "NoRoom")) = true ∧ PySem.W.subIn K (.ref (He.ga K "NoRoom")) (.type "BaseException") = some true ∧ PySem.W.typeIn K (.ref (He.ga K "NoRoom")) = some (.type "type"))
    {f_sums_of : Addr} {fd_sums_of : FuncData} (G_sums_of : FnOk P w K mg base (L2.CX P w) 1 f_sums_of fd_sums_of ["one", "other"] (spP K (clG K) F_sums_of)) (g_sums_of : mg "sums_of" = some (.ref f_sums_of)) (k_sums_of : PySem.W.keepIn K (.ref f_sums_of) = true) (b_sums_of : Binds K fd_sums_of ["one", "other"] [])
    {f_cut_of : Addr} {fd_cut_of : FuncData} (G_cut_of : FnOk P w K mg base (L2.CX P w) 1 f_cut_of fd_cut_of ["room", "sums"] (spP K (clG K) F_cut_of)) (g_cut_of : mg "cut_of" = some (.ref f_cut_of)) (k_cut_of : PySem.W.keepIn K (.ref f_cut_of) = true) (b_cut_of : Binds K fd_cut_of ["room", "sums"] [])
    (z_tuple : mg "tuple" = none)
    (z_sorted : mg "sorted" = none)
    : FnOk P w K mg base (L2.CX P w) 2 f fd ["one", "other"] (spP K (clG K) F_merged_tally) := by
  refine fn_P (m := m_merged_tally) FD sc_merged_tally (fun ds h => ifP_len ds h) (fun ds h => ifP_eq ds h) fun cdv A outer s H E hr => ?_
  exact (ds_cons (ds_if (dt_cmp (op_neA hr.units) i_ne (d_ix ix_seq i_ix (pv_rd 0) dint (fun _ _ => rfl)) (d_ix ix_seq i_ix (pv_rd 1) dint (fun _ _ => rfl)) (nomark _))
      (ds_one (ds_raise (E := (fun c d _ H => E c d H)) rfl (takes_of rfl rfl rfl rfl) PySem.F.excBase_ValueError x_NoRoom.1 c_NoRoom x_NoRoom.2.1 x_NoRoom.2.2.1 x_NoRoom.2.2.2 rfl rfl))
      ds_nil)
      (ds_cons (ds_set (i := 2) sc_merged_tally.nd rfl (by first | exact Or.inl rfl | exact Or.inr rfl) (d_callP G_sums_of (hr.mono (by decide)) rfl g_sums_of k_sums_of b_sums_of (pass_at (takes_of rfl rfl rfl rfl)) (d_cons (pv_esc 0) (d_cons (pv_esc 1) d_nil))))
      (ds_cons (ds_set (i := 3) sc_merged_tally.nd rfl (by first | exact Or.inl rfl | exact Or.inr rfl) (d_callP G_cut_of (hr.mono (by decide)) rfl g_cut_of k_cut_of b_cut_of (pass_at (takes_of rfl rfl rfl rfl)) (d_cons (d_ix ix_seq i_ix (pv_rd 0) dint (fun _ _ => rfl)) (d_cons (pv_esc 2) d_nil))))
      (ds_cons (ds_set (i := 4) sc_merged_tally.nd rfl (by first | exact Or.inl rfl | exact Or.inr rfl) (d_callTy call_tupleA i_tuple rfl z_tuple (by decide +kernel) (d_cons (d_lc (own := [("mark", 5)]) rfl sc_merged_tally.nd (di_seq (d_callB (call_sortedD rfl) i_sortD rfl z_sorted (by decide +kernel) (d_cons (pv_rd 2) d_nil))) (blkOk_by (N := N_merged_tally) (sc := defScope s_merged_tally) (by decide +kernel)) (by decide) (fun _ _ _ _ _ => (dg_name (i := 5) sc_merged_tally.nd rfl (by first | exact Or.inl rfl | exact Or.inr rfl))) (fun _ _ _ _ _ => (dts_one (dt_cmp op_gt i_gt (d_dget (hu_of hr) (pv_rd 2) (pv_rd 5) (fun _ _ => rfl)) (pv_rd 3) (nomark _)))) (fun _ _ _ _ _ => (d_tup (d_cons (pv_esc 5) (d_cons (d_bin op_sub i_sub (d_dget (hu_of hr) (pv_rd 2) (pv_rd 5) (fun _ _ => rfl)) (pv_rd 3)) d_nil))))) d_nil)))
      (ds_one (ds_ret (d_tup (d_cons (d_ix ix_seq i_ix (pv_rd 0) dint (fun _ _ => rfl)) (d_cons (pv_esc 4) (d_cons (d_bin op_addA i_add (d_bin op_addA i_add (d_ix ix_seq i_ix (pv_rd 0) dint (fun _ _ => rfl)) (d_ix ix_seq i_ix (pv_rd 1) dint (fun _ _ => rfl))) (pv_rd 3)) (d_cons (d_bin op_addA i_add (d_ix ix_seq i_ix (pv_rd 0) dint (fun _ _ => rfl)) (d_ix ix_seq i_ix (pv_rd 1) dint (fun _ _ => rfl))) d_nil)))))))))))
abbrev s_bounds_of : Stmt := topS 15
abbrev N_bounds_of : List Str := ["tally", "mark", "count"]
theorem sc_bounds_of : FnScope N_bounds_of ["tally", "mark"] (defScope s_bounds_of) := ⟨rfl, rfl, rfl, by decide +kernel, rfl, by decide +kernel, by decide +kernel⟩
def m_bounds_of_2 : SM :=
  (retS ((mCons (varM 2) (mCons (mBin gAdd (rdM 2) (mBin gIx (rdM 0) (cM (.int 2)))) mNil)) >>= tupM))
def m_bounds_of : SM :=
  (seqS (setS ((mCons (varM 0) (mCons (varM 1) mNil)) >>= callP F_count_in) (nameG 2)) m_bounds_of_2)
def F_bounds_of : List PyData → FRes := fun ds => if ds.length = 2 then runP 3 m_bounds_of ds else .no
theorem ok_bounds_of {P : Program} {w : World} {K : PySem.W.Frag} {mg : Str → Option Value} {base : Heap} {f : Addr} {fd : FuncData} (FD : FunD K "bounds_of" "bounds_of" (defArgs s_bounds_of) (defBody s_bounds_of) (defScope s_bounds_of) [] [] f fd)
    {f_count_in : Addr} {fd_count_in : FuncData} (G_count_in : FnOk P w K mg base (L2.CX P w) 1 f_count_in fd_count_in ["tally", "mark"] (spP K (clG K) F_count_in)) (g_count_in : mg "count_in" = some (.ref f_count_in)) (k_count_in : PySem.W.keepIn K (.ref f_count_in) = true) (b_count_in : Binds K fd_count_in ["tally", "mark"] [])
    : FnOk P w K mg base (L2.CX P w) 2 f fd ["tally", "mark"] (spP K (clG K) F_bounds_of) := by
  refine fn_P (m := m_bounds_of) FD sc_bounds_of (fun ds h => ifP_len ds h) (fun ds h => ifP_eq ds h) fun cdv A outer s H E hr => ?_
  exact (ds_cons (ds_set (i := 2) sc_bounds_of.nd rfl (by first | exact Or.inl rfl | exact Or.inr rfl) (d_callP G_count_in (hr.mono (by decide)) rfl g_count_in k_count_in b_count_in (pass_at (takes_of rfl rfl rfl rfl)) (d_cons (pv_esc 0) (d_cons (pv_esc 1) d_nil))))
      (ds_one (ds_ret (d_tup (d_cons (pv_esc 2) (d_cons (d_bin op_addA i_add (pv_rd 2) (d_ix ix_seq i_ix (pv_rd 0) dint (fun _ _ => rfl))) d_nil))))))
abbrev s_L_many : Stmt := topS 20
abbrev N_L_many : List Str := ["_law_pen_here"]
theorem sc_L_many : FnScope N_L_many ["_law_pen_here"] (defScope s_L_many) := ⟨rfl, rfl, rfl, by decide +kernel, rfl, by decide +kernel, by decide +kernel⟩
def m_L_many_3 : SM :=
  (retS (mBin gAdd (cM (.int 1)) ((mCons (ownM 0) (mCons (mBin gIx ((mCons (cM (.int 1)) (mCons (cM (.int 2)) (mCons (cM (.int 9)) mNil))) >>= lstM) ((mCons (ownM 0) (mCons (cM (.int 3)) mNil)) >>= callI F_L_draw)) mNil)) >>= callI F_L_draw)))
def m_L_many : SM :=
  (seqS (ifS (tst (mBin gEq ((mCons (ownM 0) (mCons (cM (.int 6)) mNil)) >>= callI F_L_draw) (cM (.int 0)))) (retS (mBin gAdd (cM (.int 1)) ((mCons (ownM 0) (mCons (mBin gSub (mBin gPow (cM (.int 10)) (cM (.int 9))) (cM (.int 1))) mNil)) >>= callI F_L_draw))) nextS) m_L_many_3)
def F_L_many : PyData → List PyData → FRes := fun d ds => if ds.length + 1 = 1 then runI 1 m_L_many d ds else .no
theorem ok_L_many {P : Program} {w : World} {K : PySem.W.Frag} {mg : Str → Option Value} {base : Heap} {f : Addr} {fd : FuncData} (FD : FunD K "_law_many" "_law_many" (defArgs s_L_many) (defBody s_L_many) (defScope s_L_many) [] [] f fd)
    {f_L_draw : Addr} {fd_L_draw : FuncData} (G_L_draw : FnOk P w K mg base (L2.CX P w) 1 f_L_draw fd_L_draw ["_law_pen_here", "_law_size"] (spI K (clG K) F_L_draw)) (g_L_draw : mg "_law_draw" = some (.ref f_L_draw)) (k_L_draw : PySem.W.keepIn K (.ref f_L_draw) = true) (b_L_draw : Binds K fd_L_draw ["_law_pen_here", "_law_size"] [])
    : FnOk P w K mg base (L2.CX P w) 2 f fd ["_law_pen_here"] (spI K (clG K) F_L_many) := by
  refine fn_I (m := m_L_many) FD sc_L_many (fun d ds h => ifI_len d ds h) (fun d ds h => ifI_eq d ds h) fun cdv A outer s H E hr => ?_
  exact (ds_cons (ds_if (dt_cmp (op_eqA hr.units) i_eq (d_callI G_L_draw (hr.mono (by decide)) rfl g_L_draw k_L_draw b_L_draw passL (d_cons (pv_own 0) (d_cons dint d_nil))) dint (nomark _))
      (ds_one (ds_ret (d_bin op_addA i_add dint (d_callI G_L_draw (hr.mono (by decide)) rfl g_L_draw k_L_draw b_L_draw passL (d_cons (pv_own 0) (d_cons (d_bin op_sub i_sub (d_bin op_pow i_pow dint dint) dint) d_nil))))))
      ds_nil)
      (ds_one (ds_ret (d_bin op_addA i_add dint (d_callI G_L_draw (hr.mono (by decide)) rfl g_L_draw k_L_draw b_L_draw passL (d_cons (pv_own 0) (d_cons (d_ix ix_seq i_ix (d_lst (d_cons dint (d_cons dint (d_cons dint d_nil)))) (d_callI G_L_draw (hr.mono (by decide)) rfl g_L_draw k_L_draw b_L_draw passL (d_cons (pv_own 0) (d_cons dint d_nil))) (fun _ _ => rfl)) d_nil)))))))
abbrev s_L_room : Stmt := topS 25
abbrev N_L_room : List Str := ["_law_pen_here"]
theorem sc_L_room : FnScope N_L_room ["_law_pen_here"] (defScope s_L_room) := ⟨rfl, rfl, rfl, by decide +kernel, rfl, by decide +kernel, by decide +kernel⟩
def m_L_room : SM :=
  (retS (mBin gIx ((mCons (cM (.int 1)) (mCons (cM (.int 2)) (mCons (cM (.int 3)) (mCons (mBin gAdd (cM (.int 1)) ((mCons (ownM 0) (mCons (cM (.int 20)) mNil)) >>= callI F_L_draw)) (mCons (cM (.int 5)) (mCons (cM (.int 20)) mNil)))))) >>= lstM) ((mCons (ownM 0) (mCons (cM (.int 6)) mNil)) >>= callI F_L_draw)))
def F_L_room : PyData → List PyData → FRes := fun d ds => if ds.length + 1 = 1 then runI 1 m_L_room d ds else .no
theorem ok_L_room {P : Program} {w : World} {K : PySem.W.Frag} {mg : Str → Option Value} {base : Heap} {f : Addr} {fd : FuncData} (FD : FunD K "_law_room" "_law_room" (defArgs s_L_room) (defBody s_L_room) (defScope s_L_room) [] [] f fd)
    {f_L_draw : Addr} {fd_L_draw : FuncData} (G_L_draw : FnOk P w K mg base (L2.CX P w) 1 f_L_draw fd_L_draw ["_law_pen_here", "_law_size"] (spI K (clG K) F_L_draw)) (g_L_draw : mg "_law_draw" = some (.ref f_L_draw)) (k_L_draw : PySem.W.keepIn K (.ref f_L_draw) = true) (b_L_draw : Binds K fd_L_draw ["_law_pen_here", "_law_size"] [])
    : FnOk P w K mg base (L2.CX P w) 2 f fd ["_law_pen_here"] (spI K (clG K) F_L_room) := by
  refine fn_I (m := m_L_room) FD sc_L_room (fun d ds h => ifI_len d ds h) (fun d ds h => ifI_eq d ds h) fun cdv A outer s H E hr => ?_
  exact (ds_one (ds_ret (d_ix ix_seq i_ix (d_lst (d_cons dint (d_cons dint (d_cons dint (d_cons (d_bin op_addA i_add dint (d_callI G_L_draw (hr.mono (by decide)) rfl g_L_draw k_L_draw b_L_draw passL (d_cons (pv_own 0) (d_cons dint d_nil)))) (d_cons dint (d_cons dint d_nil))))))) (d_callI G_L_draw (hr.mono (by decide)) rfl g_L_draw k_L_draw b_L_draw passL (d_cons (pv_own 0) (d_cons dint d_nil))) (fun _ _ => rfl))))
abbrev s_L_shaped : Stmt := topS 30
abbrev N_L_shaped : List Str := ["_law_pen_here", "_law_streams_here", "_law_left", "_law_stream_here", "_law_one", "_law_at"]
theorem sc_L_shaped : FnScope N_L_shaped ["_law_pen_here", "_law_streams_here"] (defScope s_L_shaped) := ⟨rfl, rfl, rfl, by decide +kernel, rfl, by decide +kernel, by decide +kernel⟩
def m_L_shaped_3 : SM :=
  (exprS (mutM "list" 2 mInsert (mCons ((mCons (ownM 0) (mCons (mBin gAdd (mCall gLen (mCons (rdM 2) mNil)) (cM (.int 1))) mNil)) >>= callI F_L_draw) (mCons (varM 3) mNil))))
def m_L_shaped_7 : SM :=
  (setS ((mCons (cM (.str "merged")) (mCons (mBin gIx (rdM 2) (rdM 5)) (mCons (varM 4) mNil))) >>= tupM) (subG 2 (rdM 5) sAt))
def m_L_shaped_6 : SM :=
  (seqS (setS ((mCons (ownM 0) (mCons (mCall gLen (mCons (rdM 2) mNil)) mNil)) >>= callI F_L_draw) (nameG 5)) m_L_shaped_7)
def m_L_shaped_5 : SM :=
  (seqS (setS (mutM "list" 2 mPopAt (mCons ((mCons (ownM 0) (mCons (mCall gLen (mCons (rdM 2) mNil)) mNil)) >>= callI F_L_draw) mNil)) (nameG 4)) m_L_shaped_6)
def m_L_shaped_8 : SM :=
  (retS (mBin gIx (rdM 2) (cM (.int 0))))
def m_L_shaped_4 : SM :=
  (seqS (whileL (tst (mBin gGt (mCall gLen (mCons (rdM 2) mNil)) (cM (.int 1)))) m_L_shaped_5 1000) m_L_shaped_8)
def m_L_shaped_2 : SM :=
  (seqS (forS (itemsM (varM 1)) (nameG 3) m_L_shaped_3) m_L_shaped_4)
def m_L_shaped : SM :=
  (seqS (setS (mNil >>= lstM) (nameG 2)) m_L_shaped_2)
def F_L_shaped : PyData → List PyData → FRes := fun d ds => if ds.length + 1 = 2 then runI 6 m_L_shaped d ds else .no
theorem ok_L_shaped {P : Program} {w : World} {K : PySem.W.Frag} {mg : Str → Option Value} {base : Heap} {f : Addr} {fd : FuncData} (FD : FunD K "_law_shaped" "_law_shaped" (defArgs s_L_shaped) (defBody s_L_shaped) (defScope s_L_shaped) [] [] f fd)
    {f_L_draw : Addr} {fd_L_draw : FuncData} (G_L_draw : FnOk P w K mg base (L2.CX P w) 1 f_L_draw fd_L_draw ["_law_pen_here", "_law_size"] (spI K (clG K) F_L_draw)) (g_L_draw : mg "_law_draw" = some (.ref f_L_draw)) (k_L_draw : PySem.W.keepIn K (.ref f_L_draw) = true) (b_L_draw : Binds K fd_L_draw ["_law_pen_here", "_law_size"] [])
    (z_len : mg "len" = none)
    : FnOk P w K mg base (L2.CX P w) 2 f fd ["_law_pen_here", "_law_streams_here"] (spI K (clG K) F_L_shaped) := by
  refine fn_I (m := m_L_shaped) FD sc_L_shaped (fun d ds h => ifI_len d ds h) (fun d ds h => ifI_eq d ds h) fun cdv A outer s H E hr => ?_
  exact (ds_cons (ds_set (i := 2) sc_L_shaped.nd rfl (by first | exact Or.inl rfl | exact Or.inr rfl) (d_lst d_nil))
      (ds_cons (ds_for (passes_of rfl) rfl (di_seq (pv_esc 1)) (dg_name (i := 3) sc_L_shaped.nd rfl (by first | exact Or.inl rfl | exact Or.inr rfl))
      (ds_one (ds_expr (d_mut PySem.F.plainAttrs_list PySem.F.slot_list_insert PySem.F.type_list_insert mt_insert im_insert (pv_own 2) (d_cons (d_callI G_L_draw (hr.mono (by decide)) rfl g_L_draw k_L_draw b_L_draw passL (d_cons (pv_own 0) (d_cons (d_bin op_addA i_add (d_callB call_lenA i_len rfl z_len (by decide +kernel) (d_cons (pv_rd 2) d_nil)) dint) d_nil))) (d_cons (pv_esc 3) d_nil))))))
      (ds_cons (ds_while 1000 (passes_of rfl) (dt_cmp op_gt i_gt (d_callB call_lenA i_len rfl z_len (by decide +kernel) (d_cons (pv_rd 2) d_nil)) dint (nomark _))
      (ds_cons (ds_set (i := 4) sc_L_shaped.nd rfl (by first | exact Or.inl rfl | exact Or.inr rfl) (d_mut PySem.F.plainAttrs_list PySem.F.slot_list_pop PySem.F.type_list_pop mt_popAt im_popAt (pv_own 2) (d_cons (d_callI G_L_draw (hr.mono (by decide)) rfl g_L_draw k_L_draw b_L_draw passL (d_cons (pv_own 0) (d_cons (d_callB call_lenA i_len rfl z_len (by decide +kernel) (d_cons (pv_rd 2) d_nil)) d_nil))) d_nil)))
      (ds_cons (ds_set (i := 5) sc_L_shaped.nd rfl (by first | exact Or.inl rfl | exact Or.inr rfl) (d_callI G_L_draw (hr.mono (by decide)) rfl g_L_draw k_L_draw b_L_draw passL (d_cons (pv_own 0) (d_cons (d_callB call_lenA i_len rfl z_len (by decide +kernel) (d_cons (pv_rd 2) d_nil)) d_nil))))
      (ds_one (ds_asg (d_tup (d_cons dstr (d_cons (d_ix ix_seq i_ix (pv_rd 2) (pv_rd 5) (fun _ _ => rfl)) (d_cons (pv_esc 4) d_nil)))) (dg_sub (pv_own 2) (pv_rd 5) set_list is_list))))))
      (ds_one (ds_ret (d_ix ix_seq i_ix (pv_rd 2) dint (fun _ _ => rfl)))))))
abbrev s_tally_of : Stmt := topS 12
abbrev N_tally_of : List Str := ["room", "stream", "found", "thing"]
theorem sc_tally_of : FnScope N_tally_of ["room", "stream"] (defScope s_tally_of) := ⟨rfl, rfl, rfl, by decide +kernel, rfl, by decide +kernel, by decide +kernel⟩
def m_tally_of_3 : SM :=
  (setS ((mCons (varM 2) (mCons ((mCons (varM 0) (mCons (varM 3) mNil)) >>= callP F_thing_tally) mNil)) >>= callP F_merged_tally) (nameG 2))
def m_tally_of_4 : SM :=
  (retS (takeM 2))
def m_tally_of_2 : SM :=
  (seqS (forS (itemsM (varM 1)) (nameG 3) m_tally_of_3) m_tally_of_4)
def m_tally_of : SM :=
  (seqS (setS ((mCons (varM 0) mNil) >>= callP F_empty_tally) (nameG 2)) m_tally_of_2)
def F_tally_of : List PyData → FRes := fun ds => if ds.length = 2 then runP 4 m_tally_of ds else .no
theorem ok_tally_of {P : Program} {w : World} {K : PySem.W.Frag} {mg : Str → Option Value} {base : Heap} {f : Addr} {fd : FuncData} (FD : FunD K "tally_of" "tally_of" (defArgs s_tally_of) (defBody s_tally_of) (defScope s_tally_of) [] [] f fd)
    {f_empty_tally : Addr} {fd_empty_tally : FuncData} (G_empty_tally : FnOk P w K mg base (L2.CX P w) 1 f_empty_tally fd_empty_tally ["room"] (spP K (clG K) F_empty_tally)) (g_empty_tally : mg "empty_tally" = some (.ref f_empty_tally)) (k_empty_tally : PySem.W.keepIn K (.ref f_empty_tally) = true) (b_empty_tally : Binds K fd_empty_tally ["room"] [])
    {f_merged_tally : Addr} {fd_merged_tally : FuncData} (G_merged_tally : FnOk P w K mg base (L2.CX P w) 2 f_merged_tally fd_merged_tally ["one", "other"] (spP K (clG K) F_merged_tally)) (g_merged_tally : mg "merged_tally" = some (.ref f_merged_tally)) (k_merged_tally : PySem.W.keepIn K (.ref f_merged_tally) = true) (b_merged_tally : Binds K fd_merged_tally ["one", "other"] [])
    {f_thing_tally : Addr} {fd_thing_tally : FuncData} (G_thing_tally : FnOk P w K mg base (L2.CX P w) 1 f_thing_tally fd_thing_tally ["room", "thing"] (spP K (clG K) F_thing_tally)) (g_thing_tally : mg "thing_tally" = some (.ref f_thing_tally)) (k_thing_tally : PySem.W.keepIn K (.ref f_thing_tally) = true) (b_thing_tally : Binds K fd_thing_tally ["room", "thing"] [])
    : FnOk P w K mg base (L2.CX P w) 3 f fd ["room", "stream"] (spP K (clG K) F_tally_of) := by
  refine fn_P (m := m_tally_of) FD sc_tally_of (fun ds h => ifP_len ds h) (fun ds h => ifP_eq ds h) fun cdv A outer s H E hr => ?_
  exact (ds_cons (ds_set (i := 2) sc_tally_of.nd rfl (by first | exact Or.inl rfl | exact Or.inr rfl) (d_callP G_empty_tally (hr.mono (by decide)) rfl g_empty_tally k_empty_tally b_empty_tally (pass_at (takes_of rfl rfl rfl rfl)) (d_cons (pv_esc 0) d_nil)))
      (ds_cons (ds_for (passes_of rfl) rfl (di_seq (pv_esc 1)) (dg_name (i := 3) sc_tally_of.nd rfl (by first | exact Or.inl rfl | exact Or.inr rfl))
      (ds_one (ds_set (i := 2) sc_tally_of.nd rfl (by first | exact Or.inl rfl | exact Or.inr rfl) (d_callP G_merged_tally (hr.mono (by decide)) rfl g_merged_tally k_merged_tally b_merged_tally (pass_at (takes_of rfl rfl rfl rfl)) (d_cons (pv_esc 2) (d_cons (d_callP G_thing_tally (hr.mono (by decide)) rfl g_thing_tally k_thing_tally b_thing_tally (pass_at (takes_of rfl rfl rfl rfl)) (d_cons (pv_esc 0) (d_cons (pv_esc 3) d_nil))) d_nil))))))
      (ds_one (ds_ret (pv_take 2)))))
abbrev s_L_thing : Stmt := topS 21
abbrev N_L_thing : List Str := ["_law_pen_here", "_law_marks", "_law_deep", "_law_day", "_law_number"]
theorem sc_L_thing : FnScope N_L_thing ["_law_pen_here", "_law_marks", "_law_deep"] (defScope s_L_thing) := ⟨rfl, rfl, rfl, by decide +kernel, rfl, by decide +kernel, by decide +kernel⟩
def m_L_thing_5 : SM :=
  (retS ((mCons (varM 3) (mCons ((mCons (rdM 0) (mCons ((mCons (ownM 0) (mCons (varM 1) mNil)) >>= callI F_L_draw) mNil)) >>= callF F_L_word) (mCons (varM 4) (mCons ((mCons (ownM 0) mNil) >>= callI F_L_many) mNil)))) >>= tupM))
def m_L_thing_3 : SM :=
  (seqS (ifS (tst (mBin gEq ((mCons (ownM 0) (mCons (cM (.int 3)) mNil)) >>= callI F_L_draw) (cM (.int 0)))) (setS (mBin gDiv (rdM 4) (cM (.int 4))) (nameG 4)) nextS) m_L_thing_5)
def m_L_thing_2 : SM :=
  (seqS (setS ((mCons (ownM 0) (mCons (mBin gShl (cM (.int 1)) (rdM 2)) mNil)) >>= callI F_L_draw) (nameG 4)) m_L_thing_3)
def m_L_thing : SM :=
  (seqS (setS (mBin gMulB ((mCons (ownM 0) (mCons (cM (.int 9)) mNil)) >>= callI F_L_draw) (mBin gIx ((mCons (cM (.int 1)) (mCons (cM (.int 1)) (mCons (cM (.int 1000)) mNil))) >>= lstM) ((mCons (ownM 0) (mCons (cM (.int 3)) mNil)) >>= callI F_L_draw))) (nameG 3)) m_L_thing_2)
def F_L_thing : PyData → List PyData → FRes := fun d ds => if ds.length + 1 = 3 then runI 5 m_L_thing d ds else .no
theorem ok_L_thing {P : Program} {w : World} {K : PySem.W.Frag} {mg : Str → Option Value} {base : Heap} {f : Addr} {fd : FuncData} (FD : FunD K "_law_thing" "_law_thing" (defArgs s_L_thing) (defBody s_L_thing) (defScope s_L_thing) [] [] f fd)
    {f_L_draw : Addr} {fd_L_draw : FuncData} (G_L_draw : FnOk P w K mg base (L2.CX P w) 1 f_L_draw fd_L_draw ["_law_pen_here", "_law_size"] (spI K (clG K) F_L_draw)) (g_L_draw : mg "_law_draw" = some (.ref f_L_draw)) (k_L_draw : PySem.W.keepIn K (.ref f_L_draw) = true) (b_L_draw : Binds K fd_L_draw ["_law_pen_here", "_law_size"] [])
    {f_L_many : Addr} {fd_L_many : FuncData} (G_L_many : FnOk P w K mg base (L2.CX P w) 2 f_L_many fd_L_many ["_law_pen_here"] (spI K (clG K) F_L_many)) (g_L_many : mg "_law_many" = some (.ref f_L_many)) (k_L_many : PySem.W.keepIn K (.ref f_L_many) = true) (b_L_many : Binds K fd_L_many ["_law_pen_here"] [])
    {f_L_word : Addr} {fd_L_word : FuncData} (G_L_word : FnOk P w K mg base (L2.CX P w) 1 f_L_word fd_L_word ["_law_pen_here", "_law_k"] (spP K (clG K) F_L_word)) (g_L_word : mg "_law_word" = some (.ref f_L_word)) (k_L_word : PySem.W.keepIn K (.ref f_L_word) = true) (b_L_word : Binds K fd_L_word ["_law_pen_here", "_law_k"] [])
    : FnOk P w K mg base (L2.CX P w) 3 f fd ["_law_pen_here", "_law_marks", "_law_deep"] (spI K (clG K) F_L_thing) := by
  refine fn_I (m := m_L_thing) FD sc_L_thing (fun d ds h => ifI_len d ds h) (fun d ds h => ifI_eq d ds h) fun cdv A outer s H E hr => ?_
  exact (ds_cons (ds_set (i := 3) sc_L_thing.nd rfl (by first | exact Or.inl rfl | exact Or.inr rfl) (d_bin op_mulB i_mulB (d_callI G_L_draw (hr.mono (by decide)) rfl g_L_draw k_L_draw b_L_draw passL (d_cons (pv_own 0) (d_cons dint d_nil))) (d_ix ix_seq i_ix (d_lst (d_cons dint (d_cons dint (d_cons dint d_nil)))) (d_callI G_L_draw (hr.mono (by decide)) rfl g_L_draw k_L_draw b_L_draw passL (d_cons (pv_own 0) (d_cons dint d_nil))) (fun _ _ => rfl))))
      (ds_cons (ds_set (i := 4) sc_L_thing.nd rfl (by first | exact Or.inl rfl | exact Or.inr rfl) (d_callI G_L_draw (hr.mono (by decide)) rfl g_L_draw k_L_draw b_L_draw passL (d_cons (pv_own 0) (d_cons (d_bin op_shl i_shl dint (pv_rd 2)) d_nil))))
      (ds_cons (ds_if (dt_cmp (op_eqA hr.units) i_eq (d_callI G_L_draw (hr.mono (by decide)) rfl g_L_draw k_L_draw b_L_draw passL (d_cons (pv_own 0) (d_cons dint d_nil))) dint (nomark _))
      (ds_one (ds_set (i := 4) sc_L_thing.nd rfl (by first | exact Or.inl rfl | exact Or.inr rfl) (d_bin op_fdivW i_div (pv_rd 4) dint)))
      ds_nil)
      (ds_one (ds_ret (d_tup (d_cons (pv_esc 3) (d_cons (d_callF G_L_word (hr.mono (by decide)) rfl g_L_word k_L_word b_L_word pass_no (d_cons (pv_rd 0) (d_cons (d_callI G_L_draw (hr.mono (by decide)) rfl g_L_draw k_L_draw b_L_draw passL (d_cons (pv_own 0) (d_cons (pv_esc 1) d_nil))) d_nil))) (d_cons (pv_esc 4) (d_cons (d_callI G_L_many (hr.mono (by decide)) rfl g_L_many k_L_many b_L_many passL (d_cons (pv_own 0) d_nil)) d_nil))))))))))
abbrev s_L_holds : Stmt := topS 31
abbrev N_L_holds : List Str := ["_law_tally", "_law_stream_here", "_law_marks", "_law_room_here", "_law_unlike", "_law_mark", "_law_least", "_law_most", "_law_thing_here"]
theorem sc_L_holds : FnScope N_L_holds ["_law_tally", "_law_stream_here", "_law_marks", "_law_room_here"] (defScope s_L_holds) := ⟨rfl, rfl, rfl, by decide +kernel, rfl, by decide +kernel, by decide +kernel⟩
def m_L_holds_8 : SM :=
  (ifS (bNot (tst (chainM gLe gLe (rdM 6) ((mCons (varM 1) (mCons (varM 5) mNil)) >>= callP F_L_times) (rdM 7)))) (retS (cM (.bool false))) nextS)
def m_L_holds_7 : SM :=
  (seqS (setS ((mCons (varM 0) (mCons (varM 5) mNil)) >>= callP F_bounds_of) (tupG 2 (consG (nameG 6) (consG (nameG 7) nilG)))) m_L_holds_8)
def m_L_holds_10 : SM :=
  (retS (cM (.bool true)))
def m_L_holds_6 : SM :=
  (seqS (forS (itemsM (varM 2)) (nameG 5) m_L_holds_7) m_L_holds_10)
def m_L_holds_4 : SM :=
  (seqS (ifS (bAnd (tst (mBin gLe (rdM 4) (rdM 3))) (bOr (tst (mBin gNe (mBin gIx (rdM 0) (cM (.int 2))) (cM (.int 0)))) (tst (mBin gNe (mCall gLen (mCons (mBin gIx (rdM 0) (cM (.int 1))) mNil)) (rdM 4))))) (retS (cM (.bool false))) nextS) m_L_holds_6)
def m_L_holds_3 : SM :=
  (seqS (setS (mUn gLenSet (lcM (itemsM (varM 1)) (nameG 8) yesM (mBin gIx (rdM 8) (cM (.int 1))) [8])) (nameG 4)) m_L_holds_4)
def m_L_holds : SM :=
  (seqS (ifS (tst (mBin gNe (mBin gIx (rdM 0) (cM (.int 3))) (mCall gSum (mCons (lcM (itemsM (varM 1)) (nameG 8) yesM (mBin gIx (rdM 8) (cM (.int 3))) [8]) mNil)))) (retS (cM (.bool false))) nextS) m_L_holds_3)
def F_L_holds : List PyData → FRes := fun ds => if ds.length = 4 then runP 9 m_L_holds ds else .no
theorem ok_L_holds {P : Program} {w : World} {K : PySem.W.Frag} {mg : Str → Option Value} {base : Heap} {f : Addr} {fd : FuncData} (FD : FunD K "_law_holds" "_law_holds" (defArgs s_L_holds) (defBody s_L_holds) (defScope s_L_holds) [] [] f fd)
    (z_sum : mg "sum" = none)
    (z_len : mg "len" = none)
    (z_set : mg "set" = none)
    {f_bounds_of : Addr} {fd_bounds_of : FuncData} (G_bounds_of : FnOk P w K mg base (L2.CX P w) 2 f_bounds_of fd_bounds_of ["tally", "mark"] (spP K (clG K) F_bounds_of)) (g_bounds_of : mg "bounds_of" = some (.ref f_bounds_of)) (k_bounds_of : PySem.W.keepIn K (.ref f_bounds_of) = true) (b_bounds_of : Binds K fd_bounds_of ["tally", "mark"] [])
    {f_L_times : Addr} {fd_L_times : FuncData} (G_L_times : FnOk P w K mg base (L2.CX P w) 1 f_L_times fd_L_times ["_law_stream_here", "_law_mark"] (spP K (clG K) F_L_times)) (g_L_times : mg "_law_times" = some (.ref f_L_times)) (k_L_times : PySem.W.keepIn K (.ref f_L_times) = true) (b_L_times : Binds K fd_L_times ["_law_stream_here", "_law_mark"] [])
    : FnOk P w K mg base (L2.CX P w) 3 f fd ["_law_tally", "_law_stream_here", "_law_marks", "_law_room_here"] (spP K (clG K) F_L_holds) := by
  refine fn_P (m := m_L_holds) FD sc_L_holds (fun ds h => ifP_len ds h) (fun ds h => ifP_eq ds h) fun cdv A outer s H E hr => ?_
  exact (ds_cons (ds_if (dt_cmp (op_neA hr.units) i_ne (d_ix ix_seq i_ix (pv_rd 0) dint (fun _ _ => rfl)) (d_callB (cr_sum rfl) i_sum rfl z_sum (by decide +kernel) (d_cons (d_lc (own := [("_law_thing_here", 8)]) rfl sc_L_holds.nd (di_seq (pv_esc 1)) (blkOk_by (N := N_L_holds) (sc := defScope s_L_holds) (by decide +kernel)) (by decide) (fun _ _ _ _ _ => (dg_name (i := 8) sc_L_holds.nd rfl (by first | exact Or.inl rfl | exact Or.inr rfl))) (fun _ _ _ _ _ => dts_nil) (fun _ _ _ _ _ => (d_ix ix_seq i_ix (pv_rd 8) dint (fun _ _ => rfl)))) d_nil)) (nomark _))
      (ds_one (ds_ret dbl))
      ds_nil)
      (ds_cons (ds_set (i := 4) sc_L_holds.nd rfl (by first | exact Or.inl rfl | exact Or.inr rfl) (d_lenSet rfl rfl z_len rfl z_set (d_lc (own := [("_law_thing_here", 8)]) rfl sc_L_holds.nd (di_seq (pv_esc 1)) (blkOk_by (N := N_L_holds) (sc := defScope s_L_holds) (by decide +kernel)) (by decide) (fun _ _ _ _ _ => (dg_name (i := 8) sc_L_holds.nd rfl (by first | exact Or.inl rfl | exact Or.inr rfl))) (fun _ _ _ _ _ => dts_nil) (fun _ _ _ _ _ => (d_ix ix_seq i_ix (pv_rd 8) dint (fun _ _ => rfl))))))
      (ds_cons (ds_if (PW.pt (dw_and (dt_cmp op_leA i_le (pv_rd 4) (pv_rd 3) (nomark _)) (dw_and1 (PW.pt (dw_or (dt_cmp (op_neA hr.units) i_ne (d_ix ix_seq i_ix (pv_rd 0) dint (fun _ _ => rfl)) dint (nomark _)) (dw_or1 (dt_cmp (op_neA hr.units) i_ne (d_callB call_lenA i_len rfl z_len (by decide +kernel) (d_cons (d_ix ix_seq i_ix (pv_rd 0) dint (fun _ _ => rfl)) d_nil)) (pv_rd 4) (nomark _))))))))
      (ds_one (ds_ret dbl))
      ds_nil)
      (ds_cons (ds_for (passes_of rfl) rfl (di_seq (pv_esc 2)) (dg_name (i := 5) sc_L_holds.nd rfl (by first | exact Or.inl rfl | exact Or.inr rfl))
      (ds_cons (ds_asg (d_callP G_bounds_of (hr.mono (by decide)) rfl g_bounds_of k_bounds_of b_bounds_of (pass_at (takes_of rfl rfl rfl rfl)) (d_cons (pv_esc 0) (d_cons (pv_esc 5) d_nil))) (dg_tup rfl (dgs_cons (dg_name (i := 6) sc_L_holds.nd rfl (by first | exact Or.inl rfl | exact Or.inr rfl)) (dgs_cons (dg_name (i := 7) sc_L_holds.nd rfl (by first | exact Or.inl rfl | exact Or.inr rfl)) dgs_nil))))
      (ds_one (ds_if (dt_not (dt_chain op_leA i_le op_leA i_le (pv_rd 6) (d_callP G_L_times (hr.mono (by decide)) rfl g_L_times k_L_times b_L_times (pass_at (takes_of rfl rfl rfl rfl)) (d_cons (pv_esc 1) (d_cons (pv_esc 5) d_nil))) (pv_rd 7)))
      (ds_one (ds_ret dbl))
      ds_nil))))
      (ds_one (ds_ret dbl))))))
abbrev s_L_stream : Stmt := topS 22
abbrev N_L_stream : List Str := ["_law_pen_here", "_law_marks", "_law_deep", "_law_most", "_law_k"]
theorem sc_L_stream : FnScope N_L_stream ["_law_pen_here", "_law_marks", "_law_deep", "_law_most"] (defScope s_L_stream) := ⟨rfl, rfl, rfl, by decide +kernel, rfl, by decide +kernel, by decide +kernel⟩
def m_L_stream : SM :=
  (retS (lcM (rng1M (mCons ((mCons (ownM 0) (mCons (mBin gAdd (rdM 3) (cM (.int 1))) mNil)) >>= callI F_L_draw) mNil)) (nameG 4) yesM ((mCons (ownM 0) (mCons (varM 1) (mCons (varM 2) mNil))) >>= callI F_L_thing) [4]))
def F_L_stream : PyData → List PyData → FRes := fun d ds => if ds.length + 1 = 4 then runI 5 m_L_stream d ds else .no
theorem ok_L_stream {P : Program} {w : World} {K : PySem.W.Frag} {mg : Str → Option Value} {base : Heap} {f : Addr} {fd : FuncData} (FD : FunD K "_law_stream" "_law_stream" (defArgs s_L_stream) (defBody s_L_stream) (defScope s_L_stream) [] [] f fd)
    (z_range : mg "range" = none)
    {f_L_draw : Addr} {fd_L_draw : FuncData} (G_L_draw : FnOk P w K mg base (L2.CX P w) 1 f_L_draw fd_L_draw ["_law_pen_here", "_law_size"] (spI K (clG K) F_L_draw)) (g_L_draw : mg "_law_draw" = some (.ref f_L_draw)) (k_L_draw : PySem.W.keepIn K (.ref f_L_draw) = true) (b_L_draw : Binds K fd_L_draw ["_law_pen_here", "_law_size"] [])
    {f_L_thing : Addr} {fd_L_thing : FuncData} (G_L_thing : FnOk P w K mg base (L2.CX P w) 3 f_L_thing fd_L_thing ["_law_pen_here", "_law_marks", "_law_deep"] (spI K (clG K) F_L_thing)) (g_L_thing : mg "_law_thing" = some (.ref f_L_thing)) (k_L_thing : PySem.W.keepIn K (.ref f_L_thing) = true) (b_L_thing : Binds K fd_L_thing ["_law_pen_here", "_law_marks", "_law_deep"] [])
    : FnOk P w K mg base (L2.CX P w) 4 f fd ["_law_pen_here", "_law_marks", "_law_deep", "_law_most"] (spI K (clG K) F_L_stream) := by
  refine fn_I (m := m_L_stream) FD sc_L_stream (fun d ds h => ifI_len d ds h) (fun d ds h => ifI_eq d ds h) fun cdv A outer s H E hr => ?_
  exact (ds_one (ds_ret (d_lc (own := [("_law_k", 4)]) rfl sc_L_stream.nd (di_range1 rfl z_range (d_cons (d_callI G_L_draw (hr.mono (by decide)) rfl g_L_draw k_L_draw b_L_draw passL (d_cons (pv_own 0) (d_cons (d_bin op_addA i_add (pv_rd 3) dint) d_nil))) d_nil)) (blkOk_by (N := N_L_stream) (sc := defScope s_L_stream) (by decide +kernel)) (by decide) (fun _ _ _ _ _ => (dg_name (i := 4) sc_L_stream.nd rfl (by first | exact Or.inl rfl | exact Or.inr rfl))) (fun _ _ _ _ _ => dts_nil) (fun _ _ _ _ _ => (d_callI G_L_thing (hr.mono (by decide)) rfl g_L_thing k_L_thing b_L_thing passL (d_cons (pv_own 0) (d_cons (pv_esc 1) (d_cons (pv_esc 2) d_nil))))))))
abbrev s_grown : Stmt := topS 7
abbrev N_grown : List Str := ["tree", "leaf", "join", "word", "one", "other"]
theorem sc_grown : FnScope N_grown ["tree", "leaf", "join"] (defScope s_grown) := ⟨rfl, rfl, rfl, by decide +kernel, rfl, by decide +kernel, by decide +kernel⟩
noncomputable def m_grown (F1 F2 : List PyData → FRes) (Gs : List Sl → FRes) (rs : List Sl) : SM :=
  (seqS (ifS (tst (isM "list" (rdM 0))) (retS (callC 1 (cloOf rs 1) F1 (mCons (varM 0) mNil))) nextS) (seqS (setS (varM 0) (tupG 3 (consG (nameG 3) (consG (nameG 4) (consG (nameG 5) nilG))))) (retS (callC 2 (cloOf rs 2) F2 (mCons ((mCons (varM 4) (mCons (cloM 1) (mCons (cloM 2) mNil))) >>= callH rs Gs) (mCons ((mCons (varM 5) (mCons (cloM 1) (mCons (cloM 2) mNil))) >>= callH rs Gs) mNil))))))
noncomputable def G_grown (F1 F2 : List PyData → FRes) : Nat → List Sl → FRes
  | 0 => fun _ => .no
  | n + 1 => fun rs => if okG rs = true then runS 6 (m_grown F1 F2 (G_grown F1 F2 n) rs) rs else .no
theorem G_grown_succ (F1 F2 : List PyData → FRes) (n : Nat) (rs : List Sl) : G_grown F1 F2 (n + 1) rs = if okG rs = true then runS 6 (m_grown F1 F2 (G_grown F1 F2 n) rs) rs else .no := rfl
theorem ok_grown {P : Program} {w : World} {K : PySem.W.Frag} {mg : Str → Option Value} {base : Heap} {f : Addr} {fd : FuncData} (FD : FunD K "grown" "grown" (defArgs s_grown) (defBody s_grown) (defScope s_grown) [] [] f fd)
    (z_isinstance : mg "isinstance" = none)
    (z_list : mg "list" = none)
    (g_grown : mg "grown" = some (.ref f)) (k_grown : PySem.W.keepIn K (.ref f) = true) (b_grown : Binds K fd ["tree", "leaf", "join"] [])
    (kc : Nat) (Fd F1 F2 : List PyData → FRes) : ∀ n, HOk P w K mg base (clG K) kc (n + kc) f [Fd, F1, F2] (G_grown F1 F2 n) := by
  intro n
  induction n with
  | zero => exact ⟨fun A outer s H us vs rs B Q E _ _ _ _ _ _ h => h.elim⟩
  | succ n ih =>
    have e : n + 1 + kc = (n + kc) + 1 := by omega
    rw [e]
    refine fn_H (m := m_grown F1 F2 (G_grown F1 F2 n)) FD b_grown sc_grown (fun rs h => ?_) fun cdv A outer s H E rs hn ca hr => ?_
    · by_cases h1 : okG rs = true
      · obtain ⟨t, c1, f1, c2, f2, rfl⟩ := okG_eq h1
        exact ⟨rfl, by rw [G_grown_succ, if_pos h1]; rfl⟩
      · exact absurd (if_neg h1) h
    · obtain ⟨t, c1, f1, c2, f2, rfl⟩ : ∃ t c1 f1 c2 f2, rs = [.sh t, .clo c1 f1, .clo c2 f2] := by
        by_cases h1 : okG rs = true
        · exact okG_eq h1
        · exact absurd (if_neg h1) hn
      obtain ⟨F, e1, a1⟩ := ca 1 c1 f1 rfl
      cases e1
      obtain ⟨F, e2, a2⟩ := ca 2 c2 f2 rfl
      cases e2
      exact (ds_cons (ds_if (dt_val (d_isi rfl z_isinstance (by decide +kernel) (pv_rd 0) rfl z_list (by decide +kernel)))
        (ds_one (ds_ret (d_callC (i := 1) rfl a1 (hr.mono (by omega)) (pass_at (takes_of rfl rfl rfl rfl)) (d_cons (pv_esc 0) d_nil))))
        ds_nil)
        (ds_cons (ds_asg (pv_esc 0) (dg_tup rfl (dgs_cons (dg_name (i := 3) sc_grown.nd rfl (by first | exact Or.inl rfl | exact Or.inr rfl)) (dgs_cons (dg_name (i := 4) sc_grown.nd rfl (by first | exact Or.inl rfl | exact Or.inr rfl)) (dgs_cons (dg_name (i := 5) sc_grown.nd rfl (by first | exact Or.inl rfl | exact Or.inr rfl)) dgs_nil)))))
        (ds_one (ds_ret (d_callC (i := 2) rfl a2 (hr.mono (by omega)) (pass_at (takes_of rfl rfl rfl rfl)) (d_cons (d_callH ih rfl ca hr rfl g_grown k_grown (pass_at (takes_of rfl rfl rfl rfl)) (d_cons (pv_esc 4) (d_cons (pv_clo 1) (d_cons (pv_clo 2) d_nil)))) (d_cons (d_callH ih rfl ca hr rfl g_grown k_grown (pass_at (takes_of rfl rfl rfl rfl)) (d_cons (pv_esc 5) (d_cons (pv_clo 1) (d_cons (pv_clo 2) d_nil)))) d_nil)))))))
theorem eq_grown {F1 F2 : List PyData → FRes} : ∀ (n : Nat) {d : PyData} {fs : List PyData} {c : Clo} {j : Addr}, FG F1 F2 n (d :: fs) ≠ .no → G_grown F1 F2 n [.sh d, .clo c fs, .clo ⟨j, [], []⟩ []] = FG F1 F2 n (d :: fs)
  | 0, _, _, _, _, h => absurd rfl h
  | n + 1, .list l, fs, c, j, h => by
    rw [G_grown_succ, if_pos (show okG [Sl.sh (.list l), .clo c fs, .clo ⟨j, [], []⟩ []] = true from rfl)]
    show _ = normR (F1 (.list l :: fs))
    refine runS_ret (δ := [.sh (.list l), .clo c fs, .clo ⟨j, [], []⟩ [], .no, .no, .no]) ?_
    have e0 : startD 6 [Sl.sh (.list l), .clo c fs, .clo ⟨j, [], []⟩ []] = [.sh (.list l), .clo c fs, .clo ⟨j, [], []⟩ [], .no, .no, .no] := rfl
    rw [e0]
    have e1 : callC 1 (cloOf [Sl.sh (.list l), .clo c fs, .clo ⟨j, [], []⟩ []] 1) F1 (mCons (varM 0) mNil) [.sh (.list l), .clo c fs, .clo ⟨j, [], []⟩ [], .no, .no, .no] = resF (F1 (.list l :: fs)) [.sh (.list l), .clo c fs, .clo ⟨j, [], []⟩ [], .no, .no, .no] :=
      cal_eq (ds := fs) (es := [.list l]) (rs := [.sh (.list l)]) (δ1 := [.sh (.list l), .clo c fs, .clo ⟨j, [], []⟩ [], .no, .no, .no]) rfl rfl rfl
    unfold m_grown seqS ifS M.toS retS
    rw [tst_dat rfl tyB_ll]
    simp only [M.toS]
    rw [e1]
    unfold resF
    cases F1 (.list l :: fs) with
    | ok r out => cases out <;> rfl
    | er e => by_cases hv : e.val.isNone = true <;> simp [hv]
    | no => rfl
  | n + 1, .tuple ds, fs, c, j, h => by
    match ds, h with
    | [w, a, b], h =>
      have ha : FG F1 F2 n (a :: fs) ≠ .no := fun z => h (by show bindR (FG F1 F2 n (a :: fs)) _ = _; rw [z]; rfl)
      have hb : ∀ r, FG F1 F2 n (a :: fs) = .ok r none → FG F1 F2 n (b :: fs) ≠ .no := fun r e z => h (by
        show bindR (FG F1 F2 n (a :: fs)) _ = _
        rw [e]
        show bindR (FG F1 F2 n (b :: fs)) _ = _
        rw [z]
        rfl)
      have ia := eq_grown n (d := a) (fs := fs) (c := c) (j := j) ha
      rw [G_grown_succ, if_pos (show okG [Sl.sh (.tuple [w, a, b]), .clo c fs, .clo ⟨j, [], []⟩ []] = true from rfl)]
      show _ = bindR (FG F1 F2 n (a :: fs)) fun r1 => bindR (FG F1 F2 n (b :: fs)) fun r2 => match escs [r1, r2] with
        | some ds => normR (F2 ds)
        | none => .no
      have st : ∀ (k : Nat) (x : PyData) {δ : List Sl}, δ[k]? = some (.sh x) → δ[1]? = some (.clo c fs) → δ[2]? = some (.clo ⟨j, [], []⟩ []) → (mCons (varM k) (mCons (cloM 1) (mCons (cloM 2) mNil)) >>= callH [Sl.sh (.tuple [w, a, b]), .clo c fs, .clo ⟨j, [], []⟩ []] (G_grown F1 F2 n)) δ = resF (G_grown F1 F2 n [.sh x, .clo c fs, .clo ⟨j, [], []⟩ []]) δ := fun k x {δ} h0 h1 h2 => by
        refine calH_eq (rs := [.sh x, .clo c fs, .clo ⟨j, [], []⟩ []]) ?_ rfl clos_ok
        have e1 : varM k δ = .ok (.sh x) δ := by unfold varM; rw [h0]
        have e2 : cloM 1 δ = .ok (.clo c fs) δ := by unfold cloM; rw [h1]
        have e3 : cloM 2 δ = .ok (.clo ⟨j, [], []⟩ []) δ := by unfold cloM; rw [h2]
        show Res.bind (varM k δ) _ = _
        rw [e1]
        show Res.bind (Res.bind (cloM 1 δ) _) _ = _
        rw [e2]
        show Res.bind (Res.bind (Res.bind (cloM 2 δ) _) _) _ = _
        rw [e3]
        rfl
      have sa := st 4 a (δ := [.sh (.tuple [w, a, b]), .clo c fs, .clo ⟨j, [], []⟩ [], .sh w, .sh a, .sh b]) rfl rfl rfl
      have sb := st 5 b (δ := [.sh (.tuple [w, a, b]), .clo c fs, .clo ⟨j, [], []⟩ [], .sh w, .sh a, .sh b]) rfl rfl rfl
      rw [ia] at sa
      have ev : runS 6 (m_grown F1 F2 (G_grown F1 F2 n) [Sl.sh (.tuple [w, a, b]), .clo c fs, .clo ⟨j, [], []⟩ []]) [Sl.sh (.tuple [w, a, b]), .clo c fs, .clo ⟨j, [], []⟩ []] = resR (callC 2 ⟨j, [], []⟩ F2 (mCons (mCons (varM 4) (mCons (cloM 1) (mCons (cloM 2) mNil)) >>= callH [Sl.sh (.tuple [w, a, b]), .clo c fs, .clo ⟨j, [], []⟩ []] (G_grown F1 F2 n)) (mCons (mCons (varM 5) (mCons (cloM 1) (mCons (cloM 2) mNil)) >>= callH [Sl.sh (.tuple [w, a, b]), .clo c fs, .clo ⟨j, [], []⟩ []] (G_grown F1 F2 n)) mNil)) [.sh (.tuple [w, a, b]), .clo c fs, .clo ⟨j, [], []⟩ [], .sh w, .sh a, .sh b]) := by
        refine runS_last ?_
        unfold m_grown seqS ifS M.toS
        rw [show startD 6 [Sl.sh (.tuple [w, a, b]), .clo c fs, .clo ⟨j, [], []⟩ []] = [.sh (.tuple [w, a, b]), .clo c fs, .clo ⟨j, [], []⟩ [], .no, .no, .no] from rfl, tst_dat rfl tyB_tl]
        have hs : setS (varM 0) (tupG 3 (consG (nameG 3) (consG (nameG 4) (consG (nameG 5) nilG)))) [Sl.sh (.tuple [w, a, b]), .clo c fs, .clo ⟨j, [], []⟩ [], .no, .no, .no] = .nx [.sh (.tuple [w, a, b]), .clo c fs, .clo ⟨j, [], []⟩ [], .sh w, .sh a, .sh b] := by
          simp [setS, M.toS, varM, tupG, consG, nilG, nameG, isIo, Sl.isAl]
        show (match setS (varM 0) (tupG 3 (consG (nameG 3) (consG (nameG 4) (consG (nameG 5) nilG)))) [Sl.sh (.tuple [w, a, b]), .clo c fs, .clo ⟨j, [], []⟩ [], .no, .no, .no] with
          | .nx δ' => retS (callC 2 ⟨j, [], []⟩ F2 _) δ'
          | x => x) = _
        rw [hs]
        exact retS_toRt
      rw [ev, callC_eq (ds := []) rfl, mCons_eq, sa]
      cases e1 : FG F1 F2 n (a :: fs) with
      | no => exact absurd e1 ha
      | er e =>
        show resR (Res.bind (Res.bind (resF (.er e) _) _) _) = (if e.val.isNone = true then FRes.er e else .no)
        unfold resF
        by_cases hv : e.val.isNone = true
        · simp only [if_pos hv]; rfl
        · simp only [if_neg hv]; rfl
      | ok r1 out =>
        cases out with
        | some o => rfl
        | none =>
          have ib := eq_grown n (d := b) (fs := fs) (c := c) (j := j) (hb r1 e1)
          rw [ib] at sb
          show resR (Res.bind (Res.bind (mCons _ mNil _) _) _) = bindR (FG F1 F2 n (b :: fs)) _
          rw [mCons_eq, sb]
          cases e2 : FG F1 F2 n (b :: fs) with
          | no => exact absurd e2 (hb r1 e1)
          | er e =>
            show resR (Res.bind (Res.bind (Res.bind (resF (.er e) _) _) _) _) = (if e.val.isNone = true then FRes.er e else .no)
            unfold resF
            by_cases hv : e.val.isNone = true
            · simp only [if_pos hv]; rfl
            · simp only [if_neg hv]; rfl
          | ok r2 out =>
            cases out with
            | some o => rfl
            | none =>
              show resR (match escs [r1, r2] with | some es => resF (F2 (es ++ [])) _ | none => .no) = (match escs [r1, r2] with | some ds => normR (F2 ds) | none => .no)
              cases escs [r1, r2] with
              | none => rfl
              | some es =>
                show resR (resF (F2 (es ++ [])) _) = normR (F2 es)
                rw [List.append_nil, resR_resF]
    | [], h => exact absurd rfl h
    | [_], h => exact absurd rfl h
    | [_, _], h => exact absurd rfl h
    | _ :: _ :: _ :: _ :: _, h => exact absurd rfl h
  | n + 1, .none, fs, c, j, h => absurd rfl h
  | n + 1, .bool b, fs, c, j, h => absurd rfl h
  | n + 1, .int b, fs, c, j, h => absurd rfl h
  | n + 1, .str b, fs, c, j, h => absurd rfl h
  | n + 1, .dict b, fs, c, j, h => absurd rfl h

abbrev s_L_stream_of : Stmt := topS 24
abbrev N_L_stream_of : List Str := ["_law_tree_here"]
theorem sc_L_stream_of : FnScope N_L_stream_of ["_law_tree_here"] (defScope s_L_stream_of) := ⟨rfl, rfl, rfl, by decide +kernel, rfl, by decide +kernel, by decide +kernel⟩
def m_L_stream_of_3 (Fs : List PyData → FRes) : SM :=
  (retS (mBin gAdd ((mCons (mBin gIx (rdM 0) (cM (.int 1))) mNil) >>= callP Fs) ((mCons (mBin gIx (rdM 0) (cM (.int 2))) mNil) >>= callP Fs)))
def m_L_stream_of (Fs : List PyData → FRes) : SM :=
  (seqS (ifS (tst (isM "list" (rdM 0))) (retS (mCall gListA (mCons (rdM 0) mNil))) nextS) (m_L_stream_of_3 Fs))
def F_L_stream_of : Nat → List PyData → FRes
  | 0 => fun _ => .no
  | k + 1 => fun ds => if ds.length = 1 then runP 1 (m_L_stream_of (F_L_stream_of k)) ds else .no
theorem ok_L_stream_of {P : Program} {w : World} {K : PySem.W.Frag} {mg : Str → Option Value} {base : Heap} {f : Addr} {fd : FuncData} (FD : FunD K "_law_stream_of" "_law_stream_of" (defArgs s_L_stream_of) (defBody s_L_stream_of) (defScope s_L_stream_of) [] [] f fd)
    (z_isinstance : mg "isinstance" = none)
    (z_list : mg "list" = none)
    (g_L_stream_of : mg "_law_stream_of" = some (.ref f)) (k_L_stream_of : PySem.W.keepIn K (.ref f) = true) (b_L_stream_of : Binds K fd ["_law_tree_here"] [])
    : ∀ n, FnOk P w K mg base (L2.CX P w) (n + 1) f fd ["_law_tree_here"] (spP K (clG K) (F_L_stream_of n)) := by
  intro n
  induction n with
  | zero => exact fn_noP
  | succ n G_L_stream_of =>
    refine fn_P (m := m_L_stream_of (F_L_stream_of n)) FD sc_L_stream_of (fun ds h => ifP_len ds h) (fun ds h => ifP_eq ds h) fun cdv A outer s H E hr => ?_
    exact (ds_cons (ds_if (dt_val (d_isi rfl z_isinstance (by decide +kernel) (pv_rd 0) rfl z_list (by decide +kernel)))
      (ds_one (ds_ret (d_callTy call_listA i_listA rfl z_list (by decide +kernel) (d_cons (pv_rd 0) d_nil))))
      ds_nil)
      (ds_one (ds_ret (d_bin op_addA i_add (d_callP G_L_stream_of (hr.mono (by omega)) rfl g_L_stream_of k_L_stream_of b_L_stream_of (pass_at (takes_of rfl rfl rfl rfl)) (d_cons (d_ix ix_seq i_ix (pv_rd 0) dint (fun _ _ => rfl)) d_nil)) (d_callP G_L_stream_of (hr.mono (by omega)) rfl g_L_stream_of k_L_stream_of b_L_stream_of (pass_at (takes_of rfl rfl rfl rfl)) (d_cons (d_ix ix_seq i_ix (pv_rd 0) dint (fun _ _ => rfl)) d_nil))))))
abbrev s_L_turned : Stmt := topS 27
abbrev N_L_turned : List Str := ["_law_tree_here"]
theorem sc_L_turned : FnScope N_L_turned ["_law_tree_here"] (defScope s_L_turned) := ⟨rfl, rfl, rfl, by decide +kernel, rfl, by decide +kernel, by decide +kernel⟩
def m_L_turned_3 (Fs : List PyData → FRes) : SM :=
  (retS ((mCons (cM (.str "merged")) (mCons ((mCons (mBin gIx (rdM 0) (cM (.int 2))) mNil) >>= callP Fs) (mCons ((mCons (mBin gIx (rdM 0) (cM (.int 1))) mNil) >>= callP Fs) mNil))) >>= tupM))
def m_L_turned (Fs : List PyData → FRes) : SM :=
  (seqS (ifS (tst (isM "list" (rdM 0))) (retS (takeM 0)) nextS) (m_L_turned_3 Fs))
def F_L_turned : Nat → List PyData → FRes
  | 0 => fun _ => .no
  | k + 1 => fun ds => if ds.length = 1 then runP 1 (m_L_turned (F_L_turned k)) ds else .no
theorem ok_L_turned {P : Program} {w : World} {K : PySem.W.Frag} {mg : Str → Option Value} {base : Heap} {f : Addr} {fd : FuncData} (FD : FunD K "_law_turned" "_law_turned" (defArgs s_L_turned) (defBody s_L_turned) (defScope s_L_turned) [] [] f fd)
    (z_isinstance : mg "isinstance" = none)
    (z_list : mg "list" = none)
    (g_L_turned : mg "_law_turned" = some (.ref f)) (k_L_turned : PySem.W.keepIn K (.ref f) = true) (b_L_turned : Binds K fd ["_law_tree_here"] [])
    : ∀ n, FnOk P w K mg base (L2.CX P w) (n + 1) f fd ["_law_tree_here"] (spP K (clG K) (F_L_turned n)) := by
  intro n
  induction n with
  | zero => exact fn_noP
  | succ n G_L_turned =>
    refine fn_P (m := m_L_turned (F_L_turned n)) FD sc_L_turned (fun ds h => ifP_len ds h) (fun ds h => ifP_eq ds h) fun cdv A outer s H E hr => ?_
    exact (ds_cons (ds_if (dt_val (d_isi rfl z_isinstance (by decide +kernel) (pv_rd 0) rfl z_list (by decide +kernel)))
      (ds_one (ds_ret (pv_take 0)))
      ds_nil)
      (ds_one (ds_ret (d_tup (d_cons dstr (d_cons (d_callP G_L_turned (hr.mono (by omega)) rfl g_L_turned k_L_turned b_L_turned (pass_at (takes_of rfl rfl rfl rfl)) (d_cons (d_ix ix_seq i_ix (pv_rd 0) dint (fun _ _ => rfl)) d_nil)) (d_cons (d_callP G_L_turned (hr.mono (by omega)) rfl g_L_turned k_L_turned b_L_turned (pass_at (takes_of rfl rfl rfl rfl)) (d_cons (d_ix ix_seq i_ix (pv_rd 0) dint (fun _ _ => rfl)) d_nil)) d_nil)))))))
abbrev s_L_streams : Stmt := topS 29
abbrev N_L_streams : List Str := ["_law_tree_here"]
theorem sc_L_streams : FnScope N_L_streams ["_law_tree_here"] (defScope s_L_streams) := ⟨rfl, rfl, rfl, by decide +kernel, rfl, by decide +kernel, by decide +kernel⟩
def m_L_streams_3 (Fs : List PyData → FRes) : SM :=
  (retS (mBin gAdd ((mCons (mBin gIx (rdM 0) (cM (.int 1))) mNil) >>= callP Fs) ((mCons (mBin gIx (rdM 0) (cM (.int 2))) mNil) >>= callP Fs)))
def m_L_streams (Fs : List PyData → FRes) : SM :=
  (seqS (ifS (tst (isM "list" (rdM 0))) (retS ((mCons (varM 0) mNil) >>= lstM)) nextS) (m_L_streams_3 Fs))
def F_L_streams : Nat → List PyData → FRes
  | 0 => fun _ => .no
  | k + 1 => fun ds => if ds.length = 1 then runP 1 (m_L_streams (F_L_streams k)) ds else .no
theorem ok_L_streams {P : Program} {w : World} {K : PySem.W.Frag} {mg : Str → Option Value} {base : Heap} {f : Addr} {fd : FuncData} (FD : FunD K "_law_streams" "_law_streams" (defArgs s_L_streams) (defBody s_L_streams) (defScope s_L_streams) [] [] f fd)
    (z_isinstance : mg "isinstance" = none)
    (z_list : mg "list" = none)
    (g_L_streams : mg "_law_streams" = some (.ref f)) (k_L_streams : PySem.W.keepIn K (.ref f) = true) (b_L_streams : Binds K fd ["_law_tree_here"] [])
    : ∀ n, FnOk P w K mg base (L2.CX P w) (n + 1) f fd ["_law_tree_here"] (spP K (clG K) (F_L_streams n)) := by
  intro n
  induction n with
  | zero => exact fn_noP
  | succ n G_L_streams =>
    refine fn_P (m := m_L_streams (F_L_streams n)) FD sc_L_streams (fun ds h => ifP_len ds h) (fun ds h => ifP_eq ds h) fun cdv A outer s H E hr => ?_
    exact (ds_cons (ds_if (dt_val (d_isi rfl z_isinstance (by decide +kernel) (pv_rd 0) rfl z_list (by decide +kernel)))
      (ds_one (ds_ret (d_lst (d_cons (pv_esc 0) d_nil))))
      ds_nil)
      (ds_one (ds_ret (d_bin op_addA i_add (d_callP G_L_streams (hr.mono (by omega)) rfl g_L_streams k_L_streams b_L_streams (pass_at (takes_of rfl rfl rfl rfl)) (d_cons (d_ix ix_seq i_ix (pv_rd 0) dint (fun _ _ => rfl)) d_nil)) (d_callP G_L_streams (hr.mono (by omega)) rfl g_L_streams k_L_streams b_L_streams (pass_at (takes_of rfl rfl rfl rfl)) (d_cons (d_ix ix_seq i_ix (pv_rd 0) dint (fun _ _ => rfl)) d_nil))))))
abbrev s_L_with_nothing : Stmt := topS 28
abbrev N_L_with_nothing : List Str := ["_law_pen_here", "_law_tree_here", "_law_found"]
theorem sc_L_with_nothing : FnScope N_L_with_nothing ["_law_pen_here", "_law_tree_here"] (defScope s_L_with_nothing) := ⟨rfl, rfl, rfl, by decide +kernel, rfl, by decide +kernel, by decide +kernel⟩
def m_L_with_nothing_4 (Fs : PyData → List PyData → FRes) : SM :=
  (retS (mBin gIx ((mCons (varM 2) (mCons ((mCons (cM (.str "merged")) (mCons (mNil >>= lstM) (mCons (varM 2) mNil))) >>= tupM) (mCons ((mCons (cM (.str "merged")) (mCons (varM 2) (mCons (mNil >>= lstM) mNil))) >>= tupM) (mCons (varM 2) mNil)))) >>= lstM) ((mCons (ownM 0) (mCons (cM (.int 4)) mNil)) >>= callI F_L_draw)))
def m_L_with_nothing_2 (Fs : PyData → List PyData → FRes) : SM :=
  (seqS (ifS (tst (isM "tuple" (rdM 1))) (setS ((mCons (cM (.str "merged")) (mCons ((mCons (ownM 0) (mCons (mBin gIx (rdM 1) (cM (.int 1))) mNil)) >>= callI Fs) (mCons ((mCons (ownM 0) (mCons (mBin gIx (rdM 1) (cM (.int 2))) mNil)) >>= callI Fs) mNil))) >>= tupM) (nameG 2)) nextS) (m_L_with_nothing_4 Fs))
def m_L_with_nothing (Fs : PyData → List PyData → FRes) : SM :=
  (seqS (setS (varM 1) (nameG 2)) (m_L_with_nothing_2 Fs))
def F_L_with_nothing : Nat → PyData → List PyData → FRes
  | 0 => fun _ _ => .no
  | k + 1 => fun d ds => if ds.length + 1 = 2 then runI 3 (m_L_with_nothing (F_L_with_nothing k)) d ds else .no
theorem ok_L_with_nothing {P : Program} {w : World} {K : PySem.W.Frag} {mg : Str → Option Value} {base : Heap} {f : Addr} {fd : FuncData} (FD : FunD K "_law_with_nothing" "_law_with_nothing" (defArgs s_L_with_nothing) (defBody s_L_with_nothing) (defScope s_L_with_nothing) [] [] f fd)
    (z_isinstance : mg "isinstance" = none)
    (z_tuple : mg "tuple" = none)
    {f_L_draw : Addr} {fd_L_draw : FuncData} (G_L_draw : FnOk P w K mg base (L2.CX P w) 1 f_L_draw fd_L_draw ["_law_pen_here", "_law_size"] (spI K (clG K) F_L_draw)) (g_L_draw : mg "_law_draw" = some (.ref f_L_draw)) (k_L_draw : PySem.W.keepIn K (.ref f_L_draw) = true) (b_L_draw : Binds K fd_L_draw ["_law_pen_here", "_law_size"] [])
    (g_L_with_nothing : mg "_law_with_nothing" = some (.ref f)) (k_L_with_nothing : PySem.W.keepIn K (.ref f) = true) (b_L_with_nothing : Binds K fd ["_law_pen_here", "_law_tree_here"] [])
    : ∀ n, FnOk P w K mg base (L2.CX P w) (n + 2) f fd ["_law_pen_here", "_law_tree_here"] (spI K (clG K) (F_L_with_nothing n)) := by
  intro n
  induction n with
  | zero => exact fn_noI
  | succ n G_L_with_nothing =>
    refine fn_I (m := m_L_with_nothing (F_L_with_nothing n)) FD sc_L_with_nothing (fun d ds h => ifI_len d ds h) (fun d ds h => ifI_eq d ds h) fun cdv A outer s H E hr => ?_
    exact (ds_cons (ds_set (i := 2) sc_L_with_nothing.nd rfl (by first | exact Or.inl rfl | exact Or.inr rfl) (pv_esc 1))
      (ds_cons (ds_if (dt_val (d_isi rfl z_isinstance (by decide +kernel) (pv_rd 1) rfl z_tuple (by decide +kernel)))
      (ds_one (ds_set (i := 2) sc_L_with_nothing.nd rfl (by first | exact Or.inl rfl | exact Or.inr rfl) (d_tup (d_cons dstr (d_cons (d_callI G_L_with_nothing (hr.mono (by omega)) rfl g_L_with_nothing k_L_with_nothing b_L_with_nothing passL (d_cons (pv_own 0) (d_cons (d_ix ix_seq i_ix (pv_rd 1) dint (fun _ _ => rfl)) d_nil))) (d_cons (d_callI G_L_with_nothing (hr.mono (by omega)) rfl g_L_with_nothing k_L_with_nothing b_L_with_nothing passL (d_cons (pv_own 0) (d_cons (d_ix ix_seq i_ix (pv_rd 1) dint (fun _ _ => rfl)) d_nil))) d_nil))))))
      ds_nil)
      (ds_one (ds_ret (d_ix ix_seq i_ix (d_lst (d_cons (pv_esc 2) (d_cons (d_tup (d_cons dstr (d_cons (d_lst d_nil) (d_cons (pv_esc 2) d_nil)))) (d_cons (d_tup (d_cons dstr (d_cons (pv_esc 2) (d_cons (d_lst d_nil) d_nil)))) (d_cons (pv_esc 2) d_nil))))) (d_callI G_L_draw (hr.mono (by omega)) rfl g_L_draw k_L_draw b_L_draw passL (d_cons (pv_own 0) (d_cons dint d_nil))) (fun _ _ => rfl))))))
abbrev s_grown_tally : Stmt := topS 13
abbrev N_grown_tally : List Str := ["room", "tree"]
theorem sc_grown_tally : FnScope N_grown_tally ["room", "tree"] (defScope s_grown_tally) := ⟨rfl, rfl, rfl, by decide +kernel, rfl, by decide +kernel, by decide +kernel⟩
abbrev N_lam_grown_tally : List Str := ["stream", "room"]
def m_lam_grown_tally : M Sl :=
  ((mCons (varM 1) (mCons (varM 0) mNil)) >>= callP F_tally_of)
def F_lam_grown_tally : List PyData → FRes := fun ds => if ds.length = 2 then runP 2 (retS m_lam_grown_tally) ds else .no
def m_grown_tally : SM :=
  (retS ((mCons (varM 1) (mCons (varM 0) mNil)) >>= callP (FG F_lam_grown_tally F_merged_tally 24)))
def F_grown_tally : List PyData → FRes := fun ds => if ds.length = 2 then runP 2 m_grown_tally ds else .no
theorem ok_grown_tally {P : Program} {w : World} {K : PySem.W.Frag} {mg : Str → Option Value} {base : Heap} {f : Addr} {fd : FuncData} (FD : FunD K "grown_tally" "grown_tally" (defArgs s_grown_tally) (defBody s_grown_tally) (defScope s_grown_tally) [] [] f fd)
    {f_tally_of : Addr} {fd_tally_of : FuncData} (G_tally_of : FnOk P w K mg base (L2.CX P w) 3 f_tally_of fd_tally_of ["room", "stream"] (spP K (clG K) F_tally_of)) (g_tally_of : mg "tally_of" = some (.ref f_tally_of)) (k_tally_of : PySem.W.keepIn K (.ref f_tally_of) = true) (b_tally_of : Binds K fd_tally_of ["room", "stream"] [])
    {f_merged_tally : Addr} {fd_merged_tally : FuncData} (G_merged_tally : FnOk P w K mg base (L2.CX P w) 2 f_merged_tally fd_merged_tally ["one", "other"] (spP K (clG K) F_merged_tally)) (g_merged_tally : mg "merged_tally" = some (.ref f_merged_tally)) (k_merged_tally : PySem.W.keepIn K (.ref f_merged_tally) = true) (b_merged_tally : Binds K fd_merged_tally ["one", "other"] [])
    {f_grown : Addr} (G_grown : HOk P w K mg base (clG K) 4 28 f_grown [F_lam_grown_tally, F_lam_grown_tally, F_merged_tally] (G_grown F_lam_grown_tally F_merged_tally 24)) (g_grown : mg "grown" = some (.ref f_grown)) (k_grown : PySem.W.keepIn K (.ref f_grown) = true)
    (fa_grown_tally : f = He.ga K "grown_tally") (lz_grown_tally : isTab K "grown_tally" = true) (lT_grown_tally : LamX.TabB base mg (codA K "grown_tally") (tabA K "grown_tally")) (lu_grown_tally : ∀ y ∈ lamDefs, isTab K y = true → tabA K y = tabA K "grown_tally" → y = "grown_tally")
    : FnOk P w K mg base (L2.CX P w) 29 f fd ["room", "tree"] (spP K (clG K) F_grown_tally) := by
  refine fn_PL (m := m_grown_tally) FD fa_grown_tally sc_grown_tally (fun ds h => ifP_len ds h) (fun ds h => ifP_eq ds h) fun A outer s H E hr => ?_
  refine (ds_one (ds_ret ?_))
  · refine d_callL1 (cl := clG K) (kc := 4) (x := "grown_tally") (lps := ["stream"]) (fr := ["room"]) (js := [0]) (F := F_lam_grown_tally) ?L G_grown (hr.mono (by decide)) rfl g_grown k_grown (pass_at (takes_of rfl rfl rfl rfl)) (pv_esc 1) (G_merged_tally.mono (by decide)) rfl g_merged_tally k_merged_tally b_merged_tally (fun ds h => ifP_len ds h) (fun c d fs hn => eq_grown 24 hn)
    refine LamK.mk (by decide +kernel) lz_grown_tally lT_grown_tally rfl ?hq lu_grown_tally ?hd ?h1 ?h2 ?h3 ?clo
    case hq => rfl
    case hd => rfl
    case h1 => exact free_ok (sc := defScope s_grown_tally) (by decide +kernel)
    case h2 => decide +kernel
    case h3 => rfl
    case clo =>
      intro cl c1 f1 pm ctv h1 H1 ws hw hf hn C
      refine clo_lam (k := 3) (N := N_lam_grown_tally) (ps := ["stream"]) (fr := ["room"]) (F := F_lam_grown_tally) (m := m_lam_grown_tally) ?s ?b hw ?e ?body hf hn C
      case s => exact NdefX.nscope_by (by decide +kernel)
      case b => exact fun us hl => match us, hl with | [_], _ => rfl
      case e => exact fun ds h => ⟨ifP_len ds h, ifP_eq ds h⟩
      case body => exact fun A outer s H E hr => (d_callP G_tally_of (hr.mono (by decide)) rfl g_tally_of k_tally_of b_tally_of (pass_at (takes_of rfl rfl rfl rfl)) (d_cons (pv_esc 1) (d_cons (pv_esc 0) d_nil)))
abbrev s_L_tree : Stmt := topS 23
abbrev N_L_tree : List Str := ["_law_pen_here", "_law_marks", "_law_deep", "_law_most", "_law_parts", "_law_left", "_law_one"]
theorem sc_L_tree : FnScope N_L_tree ["_law_pen_here", "_law_marks", "_law_deep", "_law_most", "_law_parts"] (defScope s_L_tree) := ⟨rfl, rfl, rfl, by decide +kernel, rfl, by decide +kernel, by decide +kernel⟩
def m_L_tree_5 (Fs : PyData → List PyData → FRes) : SM :=
  (retS ((mCons (cM (.str "merged")) (mCons (varM 6) (mCons ((mCons (ownM 0) (mCons (varM 1) (mCons (varM 2) (mCons (varM 3) (mCons (mBin gSub (rdM 4) (rdM 5)) mNil))))) >>= callI Fs) mNil))) >>= tupM))
def m_L_tree_4 (Fs : PyData → List PyData → FRes) : SM :=
  (seqS (setS ((mCons (ownM 0) (mCons (varM 1) (mCons (varM 2) (mCons (varM 3) (mCons (varM 5) mNil))))) >>= callI Fs) (nameG 6)) (m_L_tree_5 Fs))
def m_L_tree_3 (Fs : PyData → List PyData → FRes) : SM :=
  (seqS (setS (mBin gAdd (cM (.int 1)) ((mCons (ownM 0) (mCons (mBin gSub (rdM 4) (cM (.int 1))) mNil)) >>= callI F_L_draw)) (nameG 5)) (m_L_tree_4 Fs))
def m_L_tree (Fs : PyData → List PyData → FRes) : SM :=
  (seqS (ifS (bOr (tst (mBin gLt (rdM 4) (cM (.int 2)))) (tst (mBin gEq ((mCons (ownM 0) (mCons (cM (.int 5)) mNil)) >>= callI F_L_draw) (cM (.int 0))))) (retS ((mCons (ownM 0) (mCons (varM 1) (mCons (varM 2) (mCons (varM 3) mNil)))) >>= callI F_L_stream)) nextS) (m_L_tree_3 Fs))
def F_L_tree : Nat → PyData → List PyData → FRes
  | 0 => fun _ _ => .no
  | k + 1 => fun d ds => if ds.length + 1 = 5 then runI 7 (m_L_tree (F_L_tree k)) d ds else .no
theorem ok_L_tree {P : Program} {w : World} {K : PySem.W.Frag} {mg : Str → Option Value} {base : Heap} {f : Addr} {fd : FuncData} (FD : FunD K "_law_tree" "_law_tree" (defArgs s_L_tree) (defBody s_L_tree) (defScope s_L_tree) [] [] f fd)
    {f_L_draw : Addr} {fd_L_draw : FuncData} (G_L_draw : FnOk P w K mg base (L2.CX P w) 1 f_L_draw fd_L_draw ["_law_pen_here", "_law_size"] (spI K (clG K) F_L_draw)) (g_L_draw : mg "_law_draw" = some (.ref f_L_draw)) (k_L_draw : PySem.W.keepIn K (.ref f_L_draw) = true) (b_L_draw : Binds K fd_L_draw ["_law_pen_here", "_law_size"] [])
    {f_L_stream : Addr} {fd_L_stream : FuncData} (G_L_stream : FnOk P w K mg base (L2.CX P w) 4 f_L_stream fd_L_stream ["_law_pen_here", "_law_marks", "_law_deep", "_law_most"] (spI K (clG K) F_L_stream)) (g_L_stream : mg "_law_stream" = some (.ref f_L_stream)) (k_L_stream : PySem.W.keepIn K (.ref f_L_stream) = true) (b_L_stream : Binds K fd_L_stream ["_law_pen_here", "_law_marks", "_law_deep", "_law_most"] [])
    (g_L_tree : mg "_law_tree" = some (.ref f)) (k_L_tree : PySem.W.keepIn K (.ref f) = true) (b_L_tree : Binds K fd ["_law_pen_here", "_law_marks", "_law_deep", "_law_most", "_law_parts"] [])
    : ∀ n, FnOk P w K mg base (L2.CX P w) (n + 5) f fd ["_law_pen_here", "_law_marks", "_law_deep", "_law_most", "_law_parts"] (spI K (clG K) (F_L_tree n)) := by
  intro n
  induction n with
  | zero => exact fn_noI
  | succ n G_L_tree =>
    refine fn_I (m := m_L_tree (F_L_tree n)) FD sc_L_tree (fun d ds h => ifI_len d ds h) (fun d ds h => ifI_eq d ds h) fun cdv A outer s H E hr => ?_
    exact (ds_cons (ds_if (PW.pt (dw_or (dt_cmp (op_ltA hr.units) i_lt (pv_rd 4) dint (nomark _)) (dw_or1 (dt_cmp (op_eqA hr.units) i_eq (d_callI G_L_draw (hr.mono (by omega)) rfl g_L_draw k_L_draw b_L_draw passL (d_cons (pv_own 0) (d_cons dint d_nil))) dint (nomark _)))))
      (ds_one (ds_ret (d_callI G_L_stream (hr.mono (by omega)) rfl g_L_stream k_L_stream b_L_stream passL (d_cons (pv_own 0) (d_cons (pv_esc 1) (d_cons (pv_esc 2) (d_cons (pv_esc 3) d_nil)))))))
      ds_nil)
      (ds_cons (ds_set (i := 5) sc_L_tree.nd rfl (by first | exact Or.inl rfl | exact Or.inr rfl) (d_bin op_addA i_add dint (d_callI G_L_draw (hr.mono (by omega)) rfl g_L_draw k_L_draw b_L_draw passL (d_cons (pv_own 0) (d_cons (d_bin op_sub i_sub (pv_rd 4) dint) d_nil)))))
      (ds_cons (ds_set (i := 6) sc_L_tree.nd rfl (by first | exact Or.inl rfl | exact Or.inr rfl) (d_callI G_L_tree (hr.mono (by omega)) rfl g_L_tree k_L_tree b_L_tree passL (d_cons (pv_own 0) (d_cons (pv_esc 1) (d_cons (pv_esc 2) (d_cons (pv_esc 3) (d_cons (pv_esc 5) d_nil)))))))
      (ds_one (ds_ret (d_tup (d_cons dstr (d_cons (pv_esc 6) (d_cons (d_callI G_L_tree (hr.mono (by omega)) rfl g_L_tree k_L_tree b_L_tree passL (d_cons (pv_own 0) (d_cons (pv_esc 1) (d_cons (pv_esc 2) (d_cons (pv_esc 3) (d_cons (d_bin op_sub i_sub (pv_rd 4) (pv_rd 5)) d_nil)))))) d_nil)))))))))
abbrev s_law : Stmt := topS 32
abbrev N_law : List Str := ["_law_script", "_law_k", "_law_pen_here", "_law_room_here", "_law_tree_here", "_law_stream_here", "_law_marks", "_law_tally", "_law_others", "_law_other", "_law_at", "_law_turn"]
theorem sc_law : FnScope N_law ["_law_script"] (defScope s_law) := ⟨rfl, rfl, rfl, by decide +kernel, rfl, by decide +kernel, by decide +kernel⟩
def m_law_14 : SM :=
  (ifS (bNot (tst ((mCons (varM 9) (mCons (varM 5) (mCons (varM 6) (mCons (varM 3) mNil)))) >>= callP F_L_holds))) (retS (cM (.bool false))) nextS)
def m_law_13 : SM :=
  (forS (itemsM (mBin gAdd (rdM 8) ((mCons ((mCons (varM 3) (mCons (varM 5) mNil)) >>= callP F_tally_of) (mCons ((mCons (varM 3) (mCons (mUn gRevA (rdM 5)) mNil)) >>= callP F_tally_of) mNil)) >>= lstM))) (nameG 9) m_law_14)
def m_law_12 : SM :=
  (seqS (setS (lcM (rng1M (mCons (cM (.int 3)) mNil)) (nameG 11) yesM ((mCons (varM 3) (mCons ((mCons (ownM 2) (mCons ((mCons (varM 4) mNil) >>= callP (F_L_streams 24)) mNil)) >>= callI F_L_shaped) mNil)) >>= callP F_grown_tally) [11]) (nameG 8)) m_law_13)
def m_law_10 : SM :=
  (seqS (ifS (tst (mBin gNe ((mCons (varM 3) (mCons ((mCons (ownM 2) (mCons (varM 4) mNil)) >>= callI (F_L_with_nothing 24)) mNil)) >>= callP F_grown_tally) (rdM 7))) (retS (cM (.bool false))) nextS) m_law_12)
def m_law_8 : SM :=
  (seqS (ifS (bOr (tst (mBin gNe ((mCons (varM 3) (mCons ((mCons (varM 4) mNil) >>= callP (F_L_turned 24)) mNil)) >>= callP F_grown_tally) (rdM 7))) (bNot (tst ((mCons (varM 7) (mCons (varM 5) (mCons (varM 6) (mCons (varM 3) mNil)))) >>= callP F_L_holds)))) (retS (cM (.bool false))) nextS) m_law_10)
def m_law_7 : SM :=
  (seqS (setS ((mCons (varM 3) (mCons (varM 4) mNil)) >>= callP F_grown_tally) (nameG 7)) m_law_8)
def m_law_6 : SM :=
  (seqS (setS (lcM (rng1M (mCons (cM (.int 26)) mNil)) (nameG 10) yesM ((mCons (rdM 2) (mCons (rdM 10) mNil)) >>= callF F_L_word) [10]) (nameG 6)) m_law_7)
def m_law_5 : SM :=
  (seqS (setS ((mCons (varM 4) mNil) >>= callP (F_L_stream_of 24)) (nameG 5)) m_law_6)
def m_law_4 : SM :=
  (seqS (setS ((mCons (ownM 2) (mCons (mBin gIx ((mCons (cM (.int 3)) (mCons (cM (.int 9)) (mCons (cM (.int 26)) mNil))) >>= lstM) ((mCons (ownM 2) (mCons (cM (.int 3)) mNil)) >>= callI F_L_draw)) (mCons (cM (.int 4)) (mCons (cM (.int 10)) (mCons (mBin gAdd (cM (.int 1)) ((mCons (ownM 2) (mCons (cM (.int 8)) mNil)) >>= callI F_L_draw)) mNil))))) >>= callI (F_L_tree 24)) (nameG 4)) m_law_5)
def m_law_3 : SM :=
  (seqS (setS ((mCons (ownM 2) mNil) >>= callI F_L_room) (nameG 3)) m_law_4)
def m_law_2 : SM :=
  (seqS (setS ((mCons (varM 0) (mCons (varM 1) mNil)) >>= callP F_L_pen) (nameG 2)) m_law_3)
def m_law_16 : SM :=
  (retS (cM (.bool true)))
def m_law : SM :=
  (seqS (forS (rng1M (mCons (cM (.int 2)) mNil)) (nameG 1) m_law_2) m_law_16)
def F_law : List PyData → FRes := fun ds => if ds.length = 1 then runP 12 m_law ds else .no
theorem ok_law {P : Program} {w : World} {K : PySem.W.Frag} {mg : Str → Option Value} {base : Heap} {f : Addr} {fd : FuncData} (FD : FunD K "law" "law" (defArgs s_law) (defBody s_law) (defScope s_law) [] [] f fd)
    (z_range : mg "range" = none)
    {f_L_pen : Addr} {fd_L_pen : FuncData} (G_L_pen : FnOk P w K mg base (L2.CX P w) 1 f_L_pen fd_L_pen ["_law_script", "_law_k"] (spP K (clG K) F_L_pen)) (g_L_pen : mg "_law_pen" = some (.ref f_L_pen)) (k_L_pen : PySem.W.keepIn K (.ref f_L_pen) = true) (b_L_pen : Binds K fd_L_pen ["_law_script", "_law_k"] [])
    {f_L_room : Addr} {fd_L_room : FuncData} (G_L_room : FnOk P w K mg base (L2.CX P w) 2 f_L_room fd_L_room ["_law_pen_here"] (spI K (clG K) F_L_room)) (g_L_room : mg "_law_room" = some (.ref f_L_room)) (k_L_room : PySem.W.keepIn K (.ref f_L_room) = true) (b_L_room : Binds K fd_L_room ["_law_pen_here"] [])
    {f_L_tree : Addr} {fd_L_tree : FuncData} (G_L_tree : FnOk P w K mg base (L2.CX P w) 29 f_L_tree fd_L_tree ["_law_pen_here", "_law_marks", "_law_deep", "_law_most", "_law_parts"] (spI K (clG K) (F_L_tree 24))) (g_L_tree : mg "_law_tree" = some (.ref f_L_tree)) (k_L_tree : PySem.W.keepIn K (.ref f_L_tree) = true) (b_L_tree : Binds K fd_L_tree ["_law_pen_here", "_law_marks", "_law_deep", "_law_most", "_law_parts"] [])
    {f_L_draw : Addr} {fd_L_draw : FuncData} (G_L_draw : FnOk P w K mg base (L2.CX P w) 1 f_L_draw fd_L_draw ["_law_pen_here", "_law_size"] (spI K (clG K) F_L_draw)) (g_L_draw : mg "_law_draw" = some (.ref f_L_draw)) (k_L_draw : PySem.W.keepIn K (.ref f_L_draw) = true) (b_L_draw : Binds K fd_L_draw ["_law_pen_here", "_law_size"] [])
    {f_L_stream_of : Addr} {fd_L_stream_of : FuncData} (G_L_stream_of : FnOk P w K mg base (L2.CX P w) 25 f_L_stream_of fd_L_stream_of ["_law_tree_here"] (spP K (clG K) (F_L_stream_of 24))) (g_L_stream_of : mg "_law_stream_of" = some (.ref f_L_stream_of)) (k_L_stream_of : PySem.W.keepIn K (.ref f_L_stream_of) = true) (b_L_stream_of : Binds K fd_L_stream_of ["_law_tree_here"] [])
    {f_L_word : Addr} {fd_L_word : FuncData} (G_L_word : FnOk P w K mg base (L2.CX P w) 1 f_L_word fd_L_word ["_law_pen_here", "_law_k"] (spP K (clG K) F_L_word)) (g_L_word : mg "_law_word" = some (.ref f_L_word)) (k_L_word : PySem.W.keepIn K (.ref f_L_word) = true) (b_L_word : Binds K fd_L_word ["_law_pen_here", "_law_k"] [])
    {f_grown_tally : Addr} {fd_grown_tally : FuncData} (G_grown_tally : FnOk P w K mg base (L2.CX P w) 29 f_grown_tally fd_grown_tally ["room", "tree"] (spP K (clG K) F_grown_tally)) (g_grown_tally : mg "grown_tally" = some (.ref f_grown_tally)) (k_grown_tally : PySem.W.keepIn K (.ref f_grown_tally) = true) (b_grown_tally : Binds K fd_grown_tally ["room", "tree"] [])
    {f_L_turned : Addr} {fd_L_turned : FuncData} (G_L_turned : FnOk P w K mg base (L2.CX P w) 25 f_L_turned fd_L_turned ["_law_tree_here"] (spP K (clG K) (F_L_turned 24))) (g_L_turned : mg "_law_turned" = some (.ref f_L_turned)) (k_L_turned : PySem.W.keepIn K (.ref f_L_turned) = true) (b_L_turned : Binds K fd_L_turned ["_law_tree_here"] [])
    {f_L_holds : Addr} {fd_L_holds : FuncData} (G_L_holds : FnOk P w K mg base (L2.CX P w) 3 f_L_holds fd_L_holds ["_law_tally", "_law_stream_here", "_law_marks", "_law_room_here"] (spP K (clG K) F_L_holds)) (g_L_holds : mg "_law_holds" = some (.ref f_L_holds)) (k_L_holds : PySem.W.keepIn K (.ref f_L_holds) = true) (b_L_holds : Binds K fd_L_holds ["_law_tally", "_law_stream_here", "_law_marks", "_law_room_here"] [])
    {f_L_with_nothing : Addr} {fd_L_with_nothing : FuncData} (G_L_with_nothing : FnOk P w K mg base (L2.CX P w) 26 f_L_with_nothing fd_L_with_nothing ["_law_pen_here", "_law_tree_here"] (spI K (clG K) (F_L_with_nothing 24))) (g_L_with_nothing : mg "_law_with_nothing" = some (.ref f_L_with_nothing)) (k_L_with_nothing : PySem.W.keepIn K (.ref f_L_with_nothing) = true) (b_L_with_nothing : Binds K fd_L_with_nothing ["_law_pen_here", "_law_tree_here"] [])
    {f_L_shaped : Addr} {fd_L_shaped : FuncData} (G_L_shaped : FnOk P w K mg base (L2.CX P w) 2 f_L_shaped fd_L_shaped ["_law_pen_here", "_law_streams_here"] (spI K (clG K) F_L_shaped)) (g_L_shaped : mg "_law_shaped" = some (.ref f_L_shaped)) (k_L_shaped : PySem.W.keepIn K (.ref f_L_shaped) = true) (b_L_shaped : Binds K fd_L_shaped ["_law_pen_here", "_law_streams_here"] [])
    {f_L_streams : Addr} {fd_L_streams : FuncData} (G_L_streams : FnOk P w K mg base (L2.CX P w) 25 f_L_streams fd_L_streams ["_law_tree_here"] (spP K (clG K) (F_L_streams 24))) (g_L_streams : mg "_law_streams" = some (.ref f_L_streams)) (k_L_streams : PySem.W.keepIn K (.ref f_L_streams) = true) (b_L_streams : Binds K fd_L_streams ["_law_tree_here"] [])
    {f_tally_of : Addr} {fd_tally_of : FuncData} (G_tally_of : FnOk P w K mg base (L2.CX P w) 3 f_tally_of fd_tally_of ["room", "stream"] (spP K (clG K) F_tally_of)) (g_tally_of : mg "tally_of" = some (.ref f_tally_of)) (k_tally_of : PySem.W.keepIn K (.ref f_tally_of) = true) (b_tally_of : Binds K fd_tally_of ["room", "stream"] [])
    : FnOk P w K mg base (L2.CX P w) 30 f fd ["_law_script"] (spP K (clG K) F_law) := by
  refine fn_P (m := m_law) FD sc_law (fun ds h => ifP_len ds h) (fun ds h => ifP_eq ds h) fun cdv A outer s H E hr => ?_
  exact (ds_cons (ds_for (passes_of rfl) rfl (di_range1 rfl z_range (d_cons dint d_nil)) (dg_name (i := 1) sc_law.nd rfl (by first | exact Or.inl rfl | exact Or.inr rfl))
      (ds_cons (ds_set (i := 2) sc_law.nd rfl (by first | exact Or.inl rfl | exact Or.inr rfl) (d_callP G_L_pen (hr.mono (by decide)) rfl g_L_pen k_L_pen b_L_pen (pass_at (takes_of rfl rfl rfl rfl)) (d_cons (pv_esc 0) (d_cons (pv_esc 1) d_nil))))
      (ds_cons (ds_set (i := 3) sc_law.nd rfl (by first | exact Or.inl rfl | exact Or.inr rfl) (d_callI G_L_room (hr.mono (by decide)) rfl g_L_room k_L_room b_L_room passL (d_cons (pv_own 2) d_nil)))
      (ds_cons (ds_set (i := 4) sc_law.nd rfl (by first | exact Or.inl rfl | exact Or.inr rfl) (d_callI G_L_tree (hr.mono (by decide)) rfl g_L_tree k_L_tree b_L_tree passL (d_cons (pv_own 2) (d_cons (d_ix ix_seq i_ix (d_lst (d_cons dint (d_cons dint (d_cons dint d_nil)))) (d_callI G_L_draw (hr.mono (by decide)) rfl g_L_draw k_L_draw b_L_draw passL (d_cons (pv_own 2) (d_cons dint d_nil))) (fun _ _ => rfl)) (d_cons dint (d_cons dint (d_cons (d_bin op_addA i_add dint (d_callI G_L_draw (hr.mono (by decide)) rfl g_L_draw k_L_draw b_L_draw passL (d_cons (pv_own 2) (d_cons dint d_nil)))) d_nil)))))))
      (ds_cons (ds_set (i := 5) sc_law.nd rfl (by first | exact Or.inl rfl | exact Or.inr rfl) (d_callP G_L_stream_of (hr.mono (by decide)) rfl g_L_stream_of k_L_stream_of b_L_stream_of (pass_at (takes_of rfl rfl rfl rfl)) (d_cons (pv_esc 4) d_nil)))
      (ds_cons (ds_setLc (i := 6) (own := [("_law_at", 10)]) rfl sc_law.nd rfl rfl (sw_true rfl rfl rfl (by decide +kernel)) (di_range1 rfl z_range (d_cons dint d_nil)) (blkOk_by (N := N_law) (sc := defScope s_law) (by decide +kernel)) (by decide) (fun _ _ _ _ _ => (dg_name (i := 10) sc_law.nd rfl (by first | exact Or.inl rfl | exact Or.inr rfl))) (fun _ _ _ _ _ => dts_nil) (fun _ _ _ _ _ => (d_callF G_L_word (hr.mono (by decide)) rfl g_L_word k_L_word b_L_word pass_no (d_cons (pv_rd 2) (d_cons (pv_rd 10) d_nil)))))
      (ds_cons (ds_set (i := 7) sc_law.nd rfl (by first | exact Or.inl rfl | exact Or.inr rfl) (d_callP G_grown_tally (hr.mono (by decide)) rfl g_grown_tally k_grown_tally b_grown_tally (pass_at (takes_of rfl rfl rfl rfl)) (d_cons (pv_esc 3) (d_cons (pv_esc 4) d_nil))))
      (ds_cons (ds_if (PW.pt (dw_or (dt_cmp (op_neA hr.units) i_ne (d_callP G_grown_tally (hr.mono (by decide)) rfl g_grown_tally k_grown_tally b_grown_tally (pass_at (takes_of rfl rfl rfl rfl)) (d_cons (pv_esc 3) (d_cons (d_callP G_L_turned (hr.mono (by decide)) rfl g_L_turned k_L_turned b_L_turned (pass_at (takes_of rfl rfl rfl rfl)) (d_cons (pv_esc 4) d_nil)) d_nil))) (pv_rd 7) (nomark _)) (dw_or1 (dt_not (dt_val (d_callP G_L_holds (hr.mono (by decide)) rfl g_L_holds k_L_holds b_L_holds (pass_at (takes_of rfl rfl rfl rfl)) (d_cons (pv_esc 7) (d_cons (pv_esc 5) (d_cons (pv_esc 6) (d_cons (pv_esc 3) d_nil))))))))))
      (ds_one (ds_ret dbl))
      ds_nil)
      (ds_cons (ds_if (dt_cmp (op_neA hr.units) i_ne (d_callP G_grown_tally (hr.mono (by decide)) rfl g_grown_tally k_grown_tally b_grown_tally (pass_at (takes_of rfl rfl rfl rfl)) (d_cons (pv_esc 3) (d_cons (d_callI G_L_with_nothing (hr.mono (by decide)) rfl g_L_with_nothing k_L_with_nothing b_L_with_nothing passL (d_cons (pv_own 2) (d_cons (pv_esc 4) d_nil))) d_nil))) (pv_rd 7) (nomark _))
      (ds_one (ds_ret dbl))
      ds_nil)
      (ds_cons (ds_setLc (i := 8) (own := [("_law_turn", 11)]) rfl sc_law.nd rfl rfl (sw_true rfl rfl rfl (by decide +kernel)) (di_range1 rfl z_range (d_cons dint d_nil)) (blkOk_by (N := N_law) (sc := defScope s_law) (by decide +kernel)) (by decide) (fun _ _ _ _ _ => (dg_name (i := 11) sc_law.nd rfl (by first | exact Or.inl rfl | exact Or.inr rfl))) (fun _ _ _ _ _ => dts_nil) (fun _ _ _ _ _ => (d_callP G_grown_tally (hr.mono (by decide)) rfl g_grown_tally k_grown_tally b_grown_tally pass_no (d_cons (pv_esc 3) (d_cons (d_callI G_L_shaped (hr.mono (by decide)) rfl g_L_shaped k_L_shaped b_L_shaped passL (d_cons (pv_own 2) (d_cons (d_callP G_L_streams (hr.mono (by decide)) rfl g_L_streams k_L_streams b_L_streams pass_no (d_cons (pv_esc 4) d_nil)) d_nil))) d_nil)))))
      (ds_one (ds_for (passes_of rfl) rfl (di_seq (d_bin op_addA i_add (pv_rd 8) (d_lst (d_cons (d_callP G_tally_of (hr.mono (by decide)) rfl g_tally_of k_tally_of b_tally_of (pass_at (takes_of rfl rfl rfl rfl)) (d_cons (pv_esc 3) (d_cons (pv_esc 5) d_nil))) (d_cons (d_callP G_tally_of (hr.mono (by decide)) rfl g_tally_of k_tally_of b_tally_of (pass_at (takes_of rfl rfl rfl rfl)) (d_cons (pv_esc 3) (d_cons (d_revA (pv_rd 5)) d_nil))) d_nil))))) (dg_name (i := 9) sc_law.nd rfl (by first | exact Or.inl rfl | exact Or.inr rfl))
      (ds_one (ds_if (dt_not (dt_val (d_callP G_L_holds (hr.mono (by decide)) rfl g_L_holds k_L_holds b_L_holds (pass_at (takes_of rfl rfl rfl rfl)) (d_cons (pv_esc 9) (d_cons (pv_esc 5) (d_cons (pv_esc 6) (d_cons (pv_esc 3) d_nil)))))))
      (ds_one (ds_ret dbl))
      ds_nil))))))))))))))
      (ds_one (ds_ret dbl)))
end K10

set_option Elab.async false
set_option linter.all false
set_option maxRecDepth 100000
set_option maxHeartbeats 4000000
namespace K10
open PySem PySem.Spec PyProof.Rows L2 DL
/-! ### what the defs tell (kept texts) -/
theorem sums_of_spec {T U : Tl} {Q : Sl → Prop} (ht : Rise T.cts) (hz : T.cts.length + U.cts.length < 64) (q : Q (.ow (.dict (D (sums T.cts U.cts))))) : wF (F_sums_of [T.d, U.d]) Q := by
  simp [F_sums_of, wF_runP, m_sums_of, m_sums_of_2]
  have e : C T.cts ++ C U.cts = (T.cts ++ U.cts).map fun p => PyData.tuple [.str p.1, .int p.2] := by simp [C]
  rw [e]
  refine ⟨by simp [C]; omega, ?_⟩
  refine wS_pre (fun p : Str × Int => PyData.tuple [.str p.1, .int p.2]) (T.cts ++ U.cts) (fun u δ => ∃ s3 s4, Pl s3 ∧ Pl s4 ∧ δ = [.sh T.d, .sh U.d, .ow (.dict (D (u.foldl addM []))), s3, s4]) ?_ ⟨.no, .no, .no, .no, rfl⟩ ?_
  · rintro u x v hv δ ⟨s3, s4, h3, h4, rfl⟩
    have hu := congrArg List.length hv
    simp at hu
    have hl : (u.foldl addM []).length ≤ ([] : List (Str × Int)).length + u.length := sums_len
    simp at hl
    simp [h3.io, h4.io, m_sums_of_3, isK_D, put_D, len_D]
    exact ⟨by omega, _, .sh, _, .sh, rfl, rfl, rfl⟩
  · rintro δ ⟨s3, s4, h3, h4, rfl⟩
    simp [m_sums_of_4]
    rw [← List.foldl_append, sums_all ht.nd]
    exact q
theorem cut_of_spec {r : Int} {s : List (Str × Int)} {Q : Sl → Prop} (h0 : 0 ≤ r) (hz : s.length < 64) (q : Q (.sh (.int (cutO r s)))) : wF (F_cut_of [.int r, .dict (D s)]) Q := by
  have ei : ints? ((D s).map (·.2)) = some (vals s) := ints_D s
  simp [F_cut_of, wF_runP, m_cut_of, isK_D, len_D]
  refine ⟨fun h => ?_, fun h => ?_⟩
  · have e : cutO r s = 0 := if_pos h
    rw [e] at q; exact q
  · simp [m_cut_of_3, isK_D, len_D]
    refine ⟨hz, ?_⟩
    rw [ei, wO_some]
    simp
    rw [len_D]
    exact ⟨isK_D s, cut_at (Q := fun d => Q (.sh d)) h0 (by omega) q⟩
theorem empty_spec {r : Int} {Q : Sl → Prop} (q : Q (.sh (Tl.d ⟨r, [], 0, 0⟩))) : wF (F_empty_tally [.int r]) Q := by
  simp [F_empty_tally, wF_runP, m_empty_tally]
  exact q
theorem thing_tally_spec {r : Int} {t : Th} {Q : Sl → Prop} (q : Q (.sh (Tl.one r t).d)) : wF (F_thing_tally [.int r, t.d]) Q := by
  simp [F_thing_tally, wF_runP, m_thing_tally, Th.d]
  exact q
theorem count_spec {T : Tl} {k : Str} {Q : Sl → Prop} (h : Rise T.cts) (q : Q (.sh (.int (T.ct k)))) : wF (F_count_in [T.d, .str k]) Q := by
  simp [F_count_in, wF_runP, m_count_in, Tl.d]
  rw [pairs_C, wO_some, merge_C h.nd]
  simp
  exact q
theorem pen_spec {ns : List Int} {k : Int} {Q : Sl → Prop} (hn : ns.length ≤ 1000) (hk : 0 ≤ k ∧ k < 1000) (q : ∀ d, Pen d 0 → Q (.ow d)) : wF (F_L_pen [.list (ns.map .int), .int k]) Q := by
  have key : ∀ c : Int, wS (m_L_pen_6 [.sh (.list (ns.map .int)), .sh (.int k), .sh (.int c)]) (fun _ => Q (.sh .none)) (fun r _ => match r with
    | .sh d => Q (.sh d)
    | .ow d => Q (.ow d)
    | .raw v => Q (.raw v)
    | _ => False) (fun _ => False) (fun _ => False) := by
    intro c
    have h1 := Int.emod_nonneg c (by decide : (2147483587 : Int) ≠ 0)
    have h2 := Int.emod_lt_of_pos c (by decide : (0 : Int) < 2147483587)
    simp [m_L_pen_6, m_L_pen_8]
    refine ⟨pow_ok (by omega) (by omega) (by omega) (by omega), fun h => ⟨pow_ok (by omega) (by omega) (by omega) (by omega), q _ ⟨_, _, _, rfl, by omega, by omega, by omega, by omega, by omega⟩⟩, fun h => ⟨mul_ok (by unfold big; omega) (by unfold big; omega) (by unfold big; omega) (by unfold big; omega), q _ ⟨_, _, _, rfl, by omega, by omega, by omega, by omega, by omega⟩⟩⟩
  simp [F_L_pen, wF_runP, m_L_pen, m_L_pen_2]
  refine ⟨mul_ok (by unfold big; omega) (by unfold big; omega) (by unfold big; omega) (by unfold big; omega), fun h => ?_, fun h => ⟨fun h' => ⟨h', ?_⟩, fun h' => key _⟩⟩
  · refine at_ok hk.1 (by simpa using h) ?_
    simp
    exact key _
  · have h1 := Int.emod_nonneg k (by omega : (ns.length : Int) ≠ 0)
    have h2 := Int.emod_lt_of_pos k (by omega : (0 : Int) < ns.length)
    refine at_ok h1 (by simpa using h2) ?_
    simp
    exact ⟨mul_ok (by unfold big; omega) (by unfold big; omega) (by unfold big; omega) (by unfold big; omega), key _⟩
section
variable {N : List Sl → Prop} {T : Sl → List Sl → Prop} {B C : List Sl → Prop} {d : PyData} {n x a b c : Int} {s3 : Sl}
theorem draw8 (hx : 0 ≤ x ∧ x < 2147483648) (hn : 0 < n) (q : ∀ v, 0 ≤ v → v < n → T (.sh (.int v)) [.io 0 d, .sh (.int n), .sh (.int x), s3]) :
    wS (m_L_draw_8 [.io 0 d, .sh (.int n), .sh (.int x), s3]) N T B C := by
  have h1 := Int.emod_nonneg x (by decide : (8191 : Int) ≠ 0)
  have h2 := Int.emod_lt_of_pos x (by decide : (0 : Int) < 8191)
  simp [m_L_draw_8]
  exact ⟨mul_ok (by unfold big; omega) (by unfold big; omega) (by unfold big; omega) (by unfold big; omega), div_ok (by omega) (by unfold big; omega), hn, q _ (Int.emod_nonneg _ (by omega)) (Int.emod_lt_of_pos _ hn)⟩
theorem draw6 (ha : 0 ≤ b ∧ b < 1000000000000000000) (hc : 0 ≤ c ∧ c < 1000000000) (hn : 0 < n) (q : ∀ v x, 0 ≤ v → v < n → T (.sh (.int v)) [.io 0 (pen a b c), .sh (.int n), .sh (.int x), .no]) :
    wS (m_L_draw_6 [.io 0 (pen a b c), .sh (.int n), .no, .no]) N T B C := by
  simp [m_L_draw_6]
  refine ⟨mul_ok (by unfold big; omega) (by unfold big; omega) (by unfold big; omega) (by unfold big; omega), mul_ok (by unfold big; omega) (by unfold big; omega) (by unfold big; omega) (by unfold big; omega), ?_⟩
  have h1 := Int.emod_nonneg ((b + 40503 * c + 1) * 48271) (by decide : (2147483647 : Int) ≠ 0)
  have h2 := Int.emod_lt_of_pos ((b + 40503 * c + 1) * 48271) (by decide : (0 : Int) < 2147483647)
  generalize (b + 40503 * c + 1) * 48271 % 2147483647 = x at h1 h2 ⊢
  have h3 := Int.emod_nonneg x (by decide : (65521 : Int) ≠ 0)
  have h4 := Int.emod_lt_of_pos x (by decide : (0 : Int) < 65521)
  simp [m_L_draw_7]
  refine ⟨mul_ok (by unfold big; omega) (by unfold big; omega) (by unfold big; omega) (by unfold big; omega), ?_⟩
  have h5 := Int.emod_nonneg (x * (x % 65521 + c + 3)) (by decide : (2147483629 : Int) ≠ 0)
  have h6 := Int.emod_lt_of_pos (x * (x % 65521 + c + 3)) (by decide : (0 : Int) < 2147483629)
  generalize x * (x % 65521 + c + 3) % 2147483629 = y at h5 h6 ⊢
  exact draw8 ⟨h5, by omega⟩ hn fun v => q v y
theorem draw_spec {k : Nat} {Q : Sl → PyData → Prop} (hp : Pen d k) (hk : k < 1000000) (hn : 0 < n ∧ n < lim) (q : ∀ v d', 0 ≤ v → v < n → Pen d' (k + 1) → Q (.sh (.int v)) d') : wI (F_L_draw d [.int n]) Q := by
  obtain ⟨a, b, c, rfl, ha, hb, hb2, hc, hc2⟩ := hp
  simp [F_L_draw, wI_runI, m_L_draw, m_L_draw_2]
  refine ⟨fun h => ⟨hn.1, ?_⟩, fun h => ?_⟩
  · simp [m_L_draw_4, m_L_draw_5]
    refine ⟨divB hn.1 hn.2, q _ _ (Int.emod_nonneg _ (by omega)) (Int.emod_lt_of_pos _ hn.1) ⟨_, _, _, rfl, Int.ediv_nonneg (by omega) (by omega), hb, hb2, by omega, by omega⟩⟩
  · exact draw6 ⟨hb, hb2⟩ ⟨by omega, by omega⟩ hn.1 fun v x h1 h2 => q v _ h1 h2 ⟨_, _, _, rfl, ha, hb, hb2, by omega, by omega⟩
end
theorem word_spec {d : PyData} {k : Int} {Q : Sl → Prop} (q : Q (.sh (.str (wordAt k)))) : wF (F_L_word [d, .int k]) Q := by
  simp [F_L_word, wF_runP, m_L_word, m_L_word_2, m_L_word_3]
  refine ⟨by decide +kernel, ⟨by decide +kernel, by decide +kernel⟩, ?_⟩
  show wO (atI (words.map PyData.str) (k % 26)) _
  refine at_ok (Int.emod_nonneg _ (by omega)) (by rw [List.length_map, words_len]; exact Int.emod_lt_of_pos _ (by omega)) ?_
  rw [List.getElem_map]
  have h1 := Int.emod_nonneg k (by omega : (26 : Int) ≠ 0)
  have h2 := Int.emod_lt_of_pos k (by omega : (0 : Int) < 26)
  have hl : (k % 26).toNat < words.length := by rw [words_len]; omega
  have e : words[(k % 26).toNat]'hl = wordAt k := by
    unfold wordAt
    rw [List.getD_eq_getElem?_getD, List.getElem?_eq_getElem hl]
    rfl
  rw [e]
  exact q
theorem L_times_spec {l : List Th} {k : Str} {Q : Sl → Prop} (hl : l.length < 1000000) (q : Q (.sh (.int (times l k)))) : wF (F_L_times [DL.St l, .str k]) Q := by
  simp [F_L_times, wF_runP, m_L_times, DL.St]
  refine wL_mapT Th.d l (fun t => decide (t.mark = k)) (fun t => .int t.many) (by omega) ?_ ?_
  · intro t mt
    simp [Th.d]
  have e : (l.filter fun t => decide (t.mark = k)).map (fun t => PyData.int t.many) = ((l.filter fun t => decide (t.mark = k)).map Th.many).map .int := by rw [List.map_map]; rfl
  have e2 : ((l.filter fun t => decide (t.mark = k)).map Th.many).sum = times l k := rfl
  rw [e]
  generalize (l.filter fun t => decide (t.mark = k)).map Th.many = ns at e2 ⊢
  simp
  rw [DL.ints_of, wO_some]
  rw [e2]
  exact q
theorem merged_spec {T U : Tl} {Q : Sl → Prop} (hr : T.room = U.room) (r0 : 0 ≤ T.room) (ht : Rise T.cts) (hz : T.cts.length + U.cts.length < 64) (q : Q (.sh (T.mrg U).d)) : wF (F_merged_tally [T.d, U.d]) Q := by
  have hl := sums_len (A := T.cts) (B := U.cts)
  simp [F_merged_tally, wF_runP, m_merged_tally, hr, m_merged_tally_3]
  refine sums_of_spec ht hz ?_
  simp [m_merged_tally_4]
  refine cut_of_spec (by omega) (by omega) ?_
  simp [m_merged_tally_5]
  refine ⟨by omega, ?_⟩
  refine wL_mapT PyData.str (srtS ((sums T.cts U.cts).map (·.1))) (fun k => decide (cutO T.room (sums T.cts U.cts) < (val (sums T.cts U.cts) k).getD 0)) (fun k => .tuple [.str k, .int ((val (sums T.cts U.cts) k).getD 0 - cutO T.room (sums T.cts U.cts))]) (by rw [(srtS_perm _).length_eq, List.length_map]; omega) ?_ ?_
  · intro k mk
    have mk2 := (srtS_perm _).mem_iff.mp mk
    obtain ⟨v, hv⟩ := Option.isSome_iff_exists.mp (mem_keys.mp mk2)
    simp [isK_D, dget_D, hv]
  · rw [above_C]
    simp [m_merged_tally_6]
    unfold Tl.mrg at q
    exact q
theorem merged_er {T U : Tl} {E : Ex → Prop} (hr : T.room ≠ U.room) (q : E ⟨"NoRoom", none⟩) : wFE (F_merged_tally [T.d, U.d]) E := by
  refine wFE_runP (n := 6) (wE_seq1 (wE_if ?_))
  simp [hr]
  exact wE_raise q
theorem bounds_spec {T : Tl} {k : Str} {Q : Sl → Prop} (h : Rise T.cts) (q : Q (.sh (.tuple [.int (T.ct k), .int (T.ct k + T.lt)]))) : wF (F_bounds_of [T.d, .str k]) Q := by
  simp [F_bounds_of, wF_runP, m_bounds_of]
  refine count_spec h ?_
  simp [m_bounds_of_2, Tl.d]
  exact q
theorem many_spec {d : PyData} {k : Nat} {Q : Sl → PyData → Prop} (hp : Pen d k) (hk : k < 100000) (q : ∀ v d' k', 1 ≤ v → v < 1000000001 → Pen d' k' → k' ≤ k + 3 → Q (.sh (.int v)) d') : wI (F_L_many d []) Q := by
  simp [F_L_many, wI_runI, m_L_many]
  refine draw_spec hp (by omega) ⟨by omega, by unfold lim; omega⟩ fun v d1 v0 v1 p1 => ?_
  simp
  refine ⟨fun _ => ⟨pow_ok (by omega) (by omega) (by omega) (by omega), ?_⟩, fun _ => ?_⟩
  · refine draw_spec p1 (by omega) ⟨by omega, by unfold lim; omega⟩ fun w d2 w0 w1 p2 => ?_
    simp
    exact q _ _ _ (by omega) (by omega) p2 (by omega)
  · simp [m_L_many_3]
    refine draw_spec p1 (by omega) ⟨by omega, by unfold lim; omega⟩ fun w d2 w0 w1 p2 => ?_
    simp
    have wc : w = 0 ∨ w = 1 ∨ w = 2 := by omega
    rcases wc with rfl | rfl | rfl <;> simp <;> refine draw_spec p2 (by omega) ⟨by omega, by unfold lim; omega⟩ fun u d3 u0 u1 p3 => ?_ <;> simp <;> exact q _ _ _ (by omega) (by omega) p3 (by omega)
theorem room_spec {d : PyData} {k : Nat} {Q : Sl → PyData → Prop} (hp : Pen d k) (hk : k < 1000) (q : ∀ r d', 1 ≤ r → r ≤ 20 → Pen d' (k + 2) → Q (.sh (.int r)) d') : wI (F_L_room d []) Q := by
  simp [F_L_room, wI_runI, m_L_room]
  refine draw_spec hp (by omega) ⟨by omega, by unfold lim; omega⟩ fun v d1 v0 v1 p1 => ?_
  simp
  refine draw_spec p1 (by omega) ⟨by omega, by unfold lim; omega⟩ fun w d2 w0 w1 p2 => ?_
  simp
  have : w = 0 ∨ w = 1 ∨ w = 2 ∨ w = 3 ∨ w = 4 ∨ w = 5 := by omega
  rcases this with rfl | rfl | rfl | rfl | rfl | rfl <;> simp <;> exact q _ _ (by omega) (by omega) p2

theorem tally_of_spec {r : Int} (hr : 1 ≤ r ∧ r ≤ 20) {l : List Th} (hl : Wd l) {Q : Sl → Prop} (q : Q (.sh ((Tl.none r).adds l).d)) : wF (F_tally_of [.int r, DL.St l]) Q := by
  simp [F_tally_of, wF_runP, m_tally_of]
  refine empty_spec ?_
  simp [m_tally_of_2, DL.St]
  refine wS_pre Th.d l (fun u δ => ∃ s3, Pl s3 ∧ δ = [.sh (.int r), .sh (.list (l.map Th.d)), .sh ((Tl.none r).adds u).d, s3]) ?_ ⟨.no, .no, rfl⟩ ?_
  · rintro u x v hv δ ⟨s3, h3, rfl⟩
    have wu : Wd u := fun t m => hl t (by rw [hv]; exact List.mem_append_left _ m)
    have hx := hl x (by rw [hv]; simp)
    have f1 : Tl.Fit r ((Tl.none r).adds u) := Tl.Fit.adds (.none hr) wu
    have n1 := f1.len
    have e := adds_snoc (Tl.none r) u x
    rw [f1.room] at e
    simp [h3.io, m_tally_of_3]
    refine thing_tally_spec ?_
    simp
    refine merged_spec f1.room (by rw [f1.room]; omega) f1.rise (by have : (Tl.one r x).cts.length = 1 := rfl; omega) ?_
    simp
    rw [e]
  · rintro δ ⟨s3, h3, rfl⟩
    simp [m_tally_of_4]
    exact q
theorem thing5 {N : List Sl → Prop} {T : Sl → List Sl → Prop} {B C : List Sl → Prop} {d : PyData} {k : Nat} {a b y n : Int} (hp : Pen d k) (hk : k < 60000) (ha : 0 < a ∧ a < 100) (hb : 0 ≤ b ∧ b ≤ 30) (hy : 0 ≤ y ∧ y < 1000000) (hn : 0 ≤ n ∧ n < 2 ^ b.toNat)
    (q : ∀ t d' k', Drn b t → Pen d' k' → k' ≤ k + 4 → T (.sh t.d) [.io 0 d', .sh (.int a), .sh (.int b), .sh (.int y), .sh (.int n)]) : wS (m_L_thing_5 [.io 0 d, .sh (.int a), .sh (.int b), .sh (.int y), .sh (.int n)]) N T B C := by
  have hw := pow2_le hb
  simp [m_L_thing_5]
  refine draw_spec hp (by omega) ⟨by omega, by unfold lim; omega⟩ fun v d1 v0 v1 p1 => ?_
  simp
  refine word_spec ?_
  simp [flatR, flatD]
  refine many_spec p1 (by omega) fun u d2 k2 u0 u1 p2 hk2 => ?_
  simp
  exact q ⟨y, wordAt v, n, u⟩ d2 k2 ⟨⟨words_wd _ (wordAt_mem _), hy.1, by show y < lim; unfold lim; omega, hn.1, by show n < lim; unfold lim; omega, u0, by show u < lim; unfold lim; omega⟩, wordAt_mem _, hy.2, hn.2, by show u < _; omega⟩ p2 (by omega)
theorem thing_spec {d : PyData} {k : Nat} {a b : Int} {Q : Sl → PyData → Prop} (hp : Pen d k) (hk : k < 50000) (ha : 0 < a ∧ a < 100) (hb : 0 ≤ b ∧ b ≤ 30) (q : ∀ t d' k', Drn b t → Pen d' k' → k' ≤ k + 9 → Q (.sh t.d) d') : wI (F_L_thing d [.int a, .int b]) Q := by
  simp [F_L_thing, wI_runI, m_L_thing]
  refine draw_spec hp (by omega) ⟨by omega, by unfold lim; omega⟩ fun v d1 v0 v1 p1 => ?_
  simp
  refine draw_spec p1 (by omega) ⟨by omega, by unfold lim; omega⟩ fun w d2 w0 w1 p2 => ?_
  simp
  refine pick3 w0 w1 fun m hm => ?_
  have hm2 : 0 ≤ m ∧ m ≤ 1000 := by omega
  have hv : 0 ≤ v * m ∧ v * m < 1000000 := by
    rcases hm with rfl | rfl <;> omega
  have hw := pow2_le hb
  simp
  refine ⟨mulB (by unfold lim; omega) (by unfold lim; omega) (by unfold lim; omega) (by unfold lim; omega), ?_⟩
  simp [m_L_thing_2]
  refine ⟨pow_ok hb.1 (by omega) (by omega) (by omega), ?_⟩
  refine draw_spec p2 (by omega) ⟨hw.1, by unfold lim; omega⟩ fun n d3 n0 n1 p3 => ?_
  simp [m_L_thing_3]
  refine draw_spec p3 (by omega) ⟨by omega, by unfold lim; omega⟩ fun z d4 z0 z1 p4 => ?_
  simp
  refine ⟨fun _ => ⟨divB (by omega) (by unfold lim; omega), ?_⟩, fun _ => ?_⟩
  · exact thing5 p4 (by omega) ha hb hv ⟨Int.ediv_nonneg n0 (by omega), by omega⟩ fun t d' k' h1 h2 h3 => q t d' k' h1 h2 (by omega)
  · exact thing5 p4 (by omega) ha hb hv ⟨n0, by omega⟩ fun t d' k' h1 h2 h3 => q t d' k' h1 h2 (by omega)
theorem stream_spec {d : PyData} {k : Nat} {a b n : Int} {Q : Sl → PyData → Prop} (hp : Pen d k) (hk : k < 40000) (ha : 0 < a ∧ a < 100) (hb : 0 ≤ b ∧ b ≤ 30) (hn : 0 ≤ n ∧ n < 100) (q : ∀ l d' k', (∀ t ∈ l, Drn b t) → (l.length : Int) ≤ n → Pen d' k' → k' ≤ k + 1 + 9 * n.toNat → Q (.ow (DL.St l)) d') : wI (F_L_stream d [.int a, .int b, .int n]) Q := by
  simp [F_L_stream, wI_runI, m_L_stream]
  refine draw_spec hp (by omega) ⟨by omega, by unfold lim; omega⟩ fun v d1 v0 v1 p1 => ?_
  simp
  refine ⟨by omega, ?_⟩
  refine wL_inv (fun r acc δ => ∃ (l : List Th) (d' : PyData) (k' : Nat), (∀ t ∈ l, Drn b t) ∧ acc = l.map Th.d ∧ l.length + r.length = v.toNat ∧ Pen d' k' ∧ k' ≤ k + 1 + 9 * l.length ∧ δ = [.io 0 d', .sh (.int a), .sh (.int b), .sh (.int n), .no]) ?_ _ _ _ ?_ ?_
  · rintro x r acc _ ⟨l, d', k', hl, rfl, hlen, hp', hk', rfl⟩
    simp only [List.length_cons] at hlen
    refine ⟨by simp; omega, ?_⟩
    simp
    refine thing_spec hp' (by omega) ha hb fun t d2 k2 ht p2 hk2 => ?_
    simp
    refine ⟨l ++ [t], fun u m => ?_, by simp, by simp; omega, d2, k2, p2, by simp; omega, by simp⟩
    rcases List.mem_append.mp m with m | m
    · exact hl u m
    · rw [List.mem_singleton.mp m]; exact ht
  · exact ⟨[], d1, k + 1, by simp, by simp, by simp, p1, by simp, by simp⟩
  · rintro acc _ ⟨l, d', k', hl, rfl, hlen, hp', hk', rfl⟩
    simp only [List.length_nil] at hlen
    simp
    exact q l d' k' hl (by omega) hp' (by omega)
theorem stream_of_spec : ∀ (n : Nat) {t : Tr} {Q : Sl → Prop}, t.deep < n → t.strm.length < 1000000 → Q (.ow (DL.St t.strm)) → wF (F_L_stream_of n [t.d]) Q
  | 0, t, Q, h, _, _ => absurd h (Nat.not_lt_zero _)
  | n + 1, .leaf l, Q, h, hz, q => by
    have e : (Tr.leaf l).strm = l := by simp [Tr.strm, Tr.strs]
    rw [e] at q hz
    simp [F_L_stream_of, wF_runP, m_L_stream_of, Tr.d, DL.St]
    exact q
  | n + 1, .node a b, Q, h, hz, q => by
    have hd : max a.deep b.deep + 1 < n + 1 := h
    have e : (Tr.node a b).strm = a.strm ++ b.strm := by simp [Tr.strm, Tr.strs]
    rw [e] at q hz
    rw [List.length_append] at hz
    simp [F_L_stream_of, wF_runP, m_L_stream_of, Tr.d, m_L_stream_of_3]
    refine stream_of_spec n (by omega) (by omega) ?_
    simp
    refine stream_of_spec n (by omega) (by omega) ?_
    simp [DL.St]
    unfold DL.St at q
    rw [List.map_append] at q
    exact ⟨by omega, q⟩
theorem grown_tally_spec {r : Int} (hr : 1 ≤ r ∧ r ≤ 20) {t : Tr} (hd : t.deep < 24) (hw : t.All Wd) {Q : Sl → Prop} (q : Q (.sh (t.tl r).d)) : wF (F_grown_tally [.int r, t.d]) Q := by
  have e := FG_sh (F1 := F_lam_grown_tally) (F2 := F_merged_tally) (fs := [.int r]) (ok := fun t => t.All Wd) (val := fun t => (t.tl r).d) (fun l hl => wF_eq' fun Q q => by
    simp [F_lam_grown_tally, wF_runP, m_lam_grown_tally]
    refine tally_of_spec hr hl ?_
    simp
    exact q) (fun a b h => ⟨h.1, h.2, wF_eq' fun Q q => by
      have f1 := Tr.fit hr h.1
      have f2 := Tr.fit hr h.2
      have n1 := f1.len
      have n2 := f2.len
      exact merged_spec (by rw [f1.room, f2.room]) (by rw [f1.room]; omega) f1.rise (by omega) q⟩) 24 t hw hd
  simp [F_grown_tally, wF_runP, m_grown_tally]
  refine wF_of e ?_
  simp
  exact q
theorem tree_spec {a b n : Int} (ha : 0 < a ∧ a < 100) (hb : 0 ≤ b ∧ b ≤ 30) (hn : 0 ≤ n ∧ n < 100) : ∀ (m : Nat) {p : Nat} {d : PyData} {k : Nat} {Q : Sl → PyData → Prop}, Pen d k → 1 ≤ p → p ≤ m → p < 20 → k + p * (4 + 9 * n.toNat) < 40000 → (∀ t d' k' s, Grw b n t → t.parts ≤ p → Pen d' k' → k' + 2 ≤ k + p * (4 + 9 * n.toNat) → s = .sh t.d ∨ s = .ow t.d → Q s d') → wI (F_L_tree m d [.int a, .int b, .int n, .int p]) Q := by
  intro m
  induction m with
  | zero => intro p d k Q _ h1 h2; omega
  | succ m ih =>
    intro p d k Q hp h1 h2 h3 h4 q
    have hs : 4 + 9 * n.toNat ≤ p * (4 + 9 * n.toNat) := Nat.le_mul_of_pos_left _ h1
    have node : ∀ {k1 : Nat} {d1 : PyData}, Pen d1 k1 → k1 ≤ k + 1 → 2 ≤ p → wS (m_L_tree_3 (F_L_tree m) [.io 0 d1, .sh (.int a), .sh (.int b), .sh (.int n), .sh (.int p), .no, .no]) (fun δ => match δ[0]? with
                    | some (Sl.io k d) => Q (Sl.sh PyData.none) d
                    | x => False) (fun r δ => match r, δ[0]? with
                    | Sl.sh x, some (Sl.io k d) => Q (Sl.sh x) d
                    | Sl.ow x, some (Sl.io k d) => Q (Sl.ow x) d
                    | Sl.raw x, some (Sl.io k d) => Q (Sl.raw x) d
                    | x, x_1 => False) (fun _ => False) (fun _ => False) := by
      intro k1 d1 hp1 hk1 hp2
      simp [m_L_tree_3]
      refine draw_spec hp1 (by omega) ⟨by omega, by unfold lim; omega⟩ fun v d2 v0 v1 p2 => ?_
      obtain ⟨p1, hp1'⟩ : ∃ p1 : Nat, 1 + v = (p1 : Int) := ⟨(1 + v).toNat, by omega⟩
      have hp3 : 1 ≤ p1 ∧ p1 < p := by omega
      have e1 : p1 * (4 + 9 * n.toNat) + (p - p1) * (4 + 9 * n.toNat) = p * (4 + 9 * n.toNat) := by rw [← Nat.add_mul]; congr 1; omega
      have hs1 : 4 + 9 * n.toNat ≤ p1 * (4 + 9 * n.toNat) := Nat.le_mul_of_pos_left _ (by omega)
      have hs2 : 4 + 9 * n.toNat ≤ (p - p1) * (4 + 9 * n.toNat) := Nat.le_mul_of_pos_left _ (by omega)
      have e2 : (p : Int) - (p1 : Int) = ((p - p1 : Nat) : Int) := by omega
      simp [m_L_tree_4, hp1']
      refine ih p2 hp3.1 (by omega) (by omega) (by omega) fun t d3 k3 s gt pt p3 hk3 hs => ?_
      rcases hs with rfl | rfl
      · simp [m_L_tree_5, e2]
        refine ih p3 (by omega) (by omega) (by omega) (by omega) fun u d4 k4 s gu pu p4 hk4 hs => ?_
        rcases hs with rfl | rfl
        · simp
          exact q (.node t u) d4 k4 _ ⟨gt, gu⟩ (by show t.parts + u.parts ≤ p; omega) p4 (by omega) (.inl rfl)
        · simp
          exact q (.node t u) d4 k4 _ ⟨gt, gu⟩ (by show t.parts + u.parts ≤ p; omega) p4 (by omega) (.inl rfl)
      · simp [m_L_tree_5, e2]
        refine ih p3 (by omega) (by omega) (by omega) (by omega) fun u d4 k4 s gu pu p4 hk4 hs => ?_
        rcases hs with rfl | rfl
        · simp
          exact q (.node t u) d4 k4 _ ⟨gt, gu⟩ (by show t.parts + u.parts ≤ p; omega) p4 (by omega) (.inl rfl)
        · simp
          exact q (.node t u) d4 k4 _ ⟨gt, gu⟩ (by show t.parts + u.parts ≤ p; omega) p4 (by omega) (.inl rfl)
    simp [F_L_tree, wI_runI, m_L_tree]
    refine ⟨fun h => ?_, fun h => ?_⟩
    · refine stream_spec hp (by omega) ha hb hn fun l d' k' hl hz hp' hk' => ?_
      exact q (.leaf l) d' k' _ ⟨hl, hz⟩ h1 hp' (by omega) (.inr rfl)
    · refine draw_spec hp (by omega) ⟨by omega, by unfold lim; omega⟩ fun v d1 v0 v1 p1 => ?_
      simp
      refine ⟨fun h => ?_, fun h => ?_⟩
      · refine stream_spec p1 (by omega) ha hb hn fun l d' k' hl hz hp' hk' => ?_
        exact q (.leaf l) d' k' _ ⟨hl, hz⟩ h1 hp' (by omega) (.inr rfl)
      · exact node p1 (by omega) (by omega)
end K10

set_option maxHeartbeats 1000000
set_option maxRecDepth 100000
namespace K10
open PySem PySem.Spec PyProof.Rows L2 DL
theorem turned_spec : ∀ (n : Nat) {t : Tr} {Q : Sl → Prop}, t.deep < n → Q (.sh t.turn.d) → wF (F_L_turned n [t.d]) Q
  | 0, t, Q, h, _ => absurd h (Nat.not_lt_zero _)
  | n + 1, .leaf l, Q, h, q => by
    simp [F_L_turned, wF_runP, m_L_turned, Tr.d]
    exact q
  | n + 1, .node a b, Q, h, q => by
    have hd : max a.deep b.deep + 1 < n + 1 := h
    simp [F_L_turned, wF_runP, m_L_turned, Tr.d, m_L_turned_3]
    refine turned_spec n (by omega) ?_
    simp
    refine turned_spec n (by omega) ?_
    simp
    exact q
theorem streams_spec : ∀ (n : Nat) {t : Tr} {Q : Sl → Prop}, t.deep < n → t.parts < 1000 → Q (.ow (.list (t.strs.map DL.St))) → wF (F_L_streams n [t.d]) Q
  | 0, t, Q, h, _, _ => absurd h (Nat.not_lt_zero _)
  | n + 1, .leaf l, Q, h, _, q => by
    simp [F_L_streams, wF_runP, m_L_streams, Tr.d]
    exact q
  | n + 1, .node a b, Q, h, hz, q => by
    have hd : max a.deep b.deep + 1 < n + 1 := h
    have hz' : a.parts + b.parts < 1000 := hz
    have e : (Tr.node a b).strs = a.strs ++ b.strs := rfl
    rw [e, List.map_append] at q
    have l1 := a.strs_len
    have l2 := b.strs_len
    simp [F_L_streams, wF_runP, m_L_streams, Tr.d, m_L_streams_3]
    refine streams_spec n (by omega) (by omega) ?_
    simp
    refine streams_spec n (by omega) (by omega) ?_
    simp
    exact ⟨by omega, q⟩
theorem with_spec : ∀ (n : Nat) {t : Tr} {d : PyData} {k : Nat} {Q : Sl → PyData → Prop}, t.deep < n → Pen d k → k + 2 * t.parts < 10000 → (∀ b d' k', WithN t b → b.deep ≤ 2 * t.deep + 1 → Pen d' k' → k' + 1 ≤ k + 2 * t.parts → Q (.sh b.d) d') → wI (F_L_with_nothing n d [t.d]) Q
  | 0, t, d, k, Q, h, _, _, _ => absurd h (Nat.not_lt_zero _)
  | n + 1, .leaf l, d, k, Q, h, hp, hk, q => by
    have hk' : k + 2 * 1 < 10000 := hk
    have q' : ∀ b d' k', WithN (.leaf l) b → b.deep ≤ 1 → Pen d' k' → k' + 1 ≤ k + 2 * 1 → Q (.sh b.d) d' := q
    simp [F_L_with_nothing, wI_runI, m_L_with_nothing, m_L_with_nothing_2, m_L_with_nothing_4, Tr.d]
    refine draw_spec hp (by omega) ⟨by omega, by unfold lim; omega⟩ fun v d1 v0 v1 p1 => ?_
    simp
    refine pickA v0 (by simpa using v1) fun m hm => ?_
    simp at hm
    rcases hm with rfl | rfl | rfl | rfl
    · exact q' (.leaf l) d1 _ .leaf (by show 0 ≤ 1; omega) p1 (by omega)
    · exact q' (.node (.leaf []) (.leaf l)) d1 _ (.lft .leaf) (by show max 0 0 + 1 ≤ 1; omega) p1 (by omega)
    · exact q' (.node (.leaf l) (.leaf [])) d1 _ (.rgt .leaf) (by show max 0 0 + 1 ≤ 1; omega) p1 (by omega)
    · exact q' (.leaf l) d1 _ .leaf (by show 0 ≤ 1; omega) p1 (by omega)
  | n + 1, .node a b, d, k, Q, h, hp, hk, q => by
    have hd : max a.deep b.deep + 1 < n + 1 := h
    have hk' : k + 2 * (a.parts + b.parts) < 10000 := hk
    have q' : ∀ c d' k', WithN (.node a b) c → c.deep ≤ 2 * (max a.deep b.deep + 1) + 1 → Pen d' k' → k' + 1 ≤ k + 2 * (a.parts + b.parts) → Q (.sh c.d) d' := q
    have pa := a.parts_pos
    have pb := b.parts_pos
    simp [F_L_with_nothing, wI_runI, m_L_with_nothing, m_L_with_nothing_2, Tr.d]
    refine with_spec n (by omega) hp (by omega) fun a' d1 k1 ha da p1 hk1 => ?_
    simp
    refine with_spec n (by omega) p1 (by omega) fun b' d2 k2 hb db p2 hk2 => ?_
    simp [m_L_with_nothing_4]
    refine draw_spec p2 (by omega) ⟨by omega, by unfold lim; omega⟩ fun v d3 v0 v1 p3 => ?_
    simp
    refine pickA v0 (by simpa using v1) fun m hm => ?_
    simp at hm
    rcases hm with rfl | rfl | rfl | rfl
    · exact q' (.node a' b') d3 _ (.node ha hb) (by show max a'.deep b'.deep + 1 ≤ _; omega) p3 (by omega)
    · exact q' (.node (.leaf []) (.node a' b')) d3 _ (.lft (.node ha hb)) (by show max 0 (max a'.deep b'.deep + 1) + 1 ≤ _; omega) p3 (by omega)
    · exact q' (.node (.node a' b') (.leaf [])) d3 _ (.rgt (.node ha hb)) (by show max (max a'.deep b'.deep + 1) 0 + 1 ≤ _; omega) p3 (by omega)
    · exact q' (.node a' b') d3 _ (.node ha hb) (by show max a'.deep b'.deep + 1 ≤ _; omega) p3 (by omega)
theorem shaped_spec {ss : List (List Th)} {d : PyData} {k : Nat} {Q : Sl → PyData → Prop} (hs : 1 ≤ ss.length ∧ ss.length < 20) (hp : Pen d k) (hk : k < 10000) (q : ∀ (t : Tr) d' k', t.strs.Perm ss → Pen d' k' → k' ≤ k + 3 * ss.length → Q (.sh t.d) d') : wI (F_L_shaped d [.list (ss.map DL.St)]) Q := by
  simp [F_L_shaped, wI_runI, m_L_shaped, m_L_shaped_2]
  refine wS_pre DL.St ss (fun u δ => ∃ (ts : List Tr) (d' : PyData) (s3 : Sl), (strsT ts).Perm u ∧ ts.length = u.length ∧ Pen d' (k + u.length) ∧ Pl s3 ∧ δ = [.io 0 d', .sh (.list (ss.map DL.St)), .ow (.list (ts.map Tr.d)), s3, .no, .no]) ?_ ⟨[], d, .no, .nil, rfl, hp, .no, rfl⟩ ?_
  · rintro u x v hv δ ⟨ts, d', s3, hf, hl, p', h3, rfl⟩
    have hu := congrArg List.length hv
    simp at hu
    simp [h3.io, m_L_shaped_3]
    refine draw_spec p' (by omega) ⟨by omega, by unfold lim; omega⟩ fun j d2 j0 j1 p2 => ?_
    simp
    refine wm_insert j0 (by simp; omega) (by simp; omega) ?_
    refine ⟨ts.take j.toNat ++ [.leaf x] ++ ts.drop j.toNat, d2, .sh (DL.St x), (strsT_ins ts (.leaf x) _).trans (hf.append_right _), by simp; omega, by simpa [Nat.add_assoc] using p2, .sh, by simp [List.map_take, List.map_drop, Tr.d]⟩
  · rintro δ ⟨ts, d', s3, hf, hl, p', h3, rfl⟩
    simp [m_L_shaped_4]
    refine wS_wInv (ShI k ss s3) ?_ 1000 (ss.length - 1) _ ⟨ts, d', _, .no, .no, hf, by omega, p', by omega, .no, .no, by omega, rfl⟩ (by omega)
    rintro z δ ⟨ts, d', k', s4, s5, hf, hl, p', hk', h4, h5, hz, rfl⟩
    simp [hl]
    refine ⟨fun hz1 => ?_, fun hz1 => ?_⟩
    · refine ⟨z - 1, by omega, ?_⟩
      simp [m_L_shaped_5, hl]
      refine draw_spec p' (by omega) ⟨by omega, by unfold lim; omega⟩ fun i d2 i0 i1 p2 => ?_
      simp
      refine wm_popAt i0 (by simp; omega) (by simp; omega) ?_
      have hi : i.toNat < ts.length := by omega
      have hl2 : (ts.eraseIdx i.toNat).length = z := by rw [List.length_eraseIdx_of_lt hi]; omega
      have pp := strsT_pop ts i.toNat hi
      rw [erase_map]
      simp only [List.getElem_map]
      generalize ts[i.toNat] = one at pp ⊢
      generalize ts.eraseIdx i.toNat = us at hl2 pp ⊢
      simp [h4.io, m_L_shaped_6, hl2]
      refine draw_spec p2 (by omega) ⟨by omega, by unfold lim; omega⟩ fun j d3 j0 j1 p3 => ?_
      have hj : j.toNat < us.length := by omega
      have ej : ixN us.length j = some j.toNat := by unfold ixN; rw [if_pos j0, if_pos (by omega)]
      simp [h5.io, m_L_shaped_7]
      refine at_ok j0 (by simp; omega) ?_
      simp [ej]
      refine ⟨us.set j.toNat (.node us[j.toNat] one), d3, k' + 1 + 1, .sh one.d, .sh (.int j), ((strsT_set us _ hj one).trans pp.symm).trans hf, by simp; omega, p3, by omega, .sh, .sh, by omega, by simp [Tr.d]⟩
    · have hz0 : z = 0 := by omega
      subst hz0
      obtain ⟨t, rfl⟩ := List.length_eq_one_iff.mp hl
      simp [m_L_shaped_8]
      refine q t d' k' ?_ p' (by omega)
      simpa [strsT] using hf
theorem holds_spec {r : Int} {T : Tl} {L : List Th} {ks : List Str} {Q : Sl → Prop} (g : GoodT r T L) (hL : L.length < 1000) (hk : ks.length < 1000) (q : Q (.sh (.bool true))) : wF (F_L_holds [T.d, DL.St L, .list (ks.map .str), .int r]) Q := by
  have eT : T.d = .tuple [.int T.room, .tuple (C T.cts), .int T.lt, .int T.tot] := rfl
  have e3 : L.map (fun t => PyData.int t.many) = (L.map Th.many).map .int := by rw [List.map_map]; rfl
  have e4 : (L.map Th.many).sum = things L := rfl
  have e5 : L.map (fun t => PyData.str t.mark) = (L.map Th.mark).map .str := by rw [List.map_map]; rfl
  have e6 : (dis (L.map Th.mark)).length = unlike L := rfl
  have hms : (L.map Th.mark).length < 1000 := by simpa using hL
  simp [F_L_holds, wF_runP, m_L_holds, DL.St, eT]
  refine wL_mapU Th.d L (fun t => .int t.many) (by omega) ?_ ?_
  · intro t mt
    simp [Th.d]
  rw [e3]
  generalize L.map Th.many = ms at e4 ⊢
  simp
  rw [DL.ints_of, wO_some, e4]
  simp [g.tot, m_L_holds_3]
  refine wL_mapU Th.d L (fun t => .str t.mark) (by omega) ?_ ?_
  · intro t mt
    simp [Th.d]
  rw [e5]
  generalize L.map Th.mark = ns at e6 hms ⊢
  simp
  show wG ((DL.strs? (ns.map .str)).bind fun ks => if ks.length ≤ 4000 then some (.sh (.int ((dis ks).length : Nat))) else none) _ _
  rw [DL.strs_of]
  show wG (if ns.length ≤ 4000 then some (.sh (.int ((dis ns).length : Nat))) else none) _ _
  rw [if_pos (by omega), wG_some, e6]
  have go : wS (m_L_holds_6 [.sh T.d, .sh (DL.St L), .sh (.list (ks.map .str)), .sh (.int r), .sh (.int (unlike L)), .no, .no, .no, .no]) (fun _ => Q (.sh .none)) (fun s _ => match s with
      | .sh d => Q (.sh d)
      | .ow d => Q (.ow d)
      | .raw v => Q (.raw v)
      | _ => False) (fun _ => False) (fun _ => False) := by
    simp [m_L_holds_6]
    refine wS_pre PyData.str ks (fun u δ => ∃ s5 s6 s7, Pl s5 ∧ Pl s6 ∧ Pl s7 ∧ δ = [.sh T.d, .sh (DL.St L), .sh (.list (ks.map .str)), .sh (.int r), .sh (.int (unlike L)), s5, s6, s7, .no]) ?_ ⟨.no, .no, .no, .no, .no, .no, rfl⟩ ?_
    · rintro u x v hv δ ⟨s5, s6, s7, h5, h6, h7, rfl⟩
      obtain ⟨b1, b2⟩ := g.holds x
      simp [h5.io, m_L_holds_7]
      refine bounds_spec g.fit.rise ?_
      simp [h6.io, h7.io, m_L_holds_8]
      refine L_times_spec (by omega) ?_
      simp [b1, b2]
      exact ⟨_, .sh, _, .sh, _, .sh, rfl, rfl, rfl⟩
    · rintro δ ⟨s5, s6, s7, h5, h6, h7, rfl⟩
      simp [m_L_holds_10]
      exact q
  simp [Out.sl, Sl.isAl, isIo, m_L_holds_4]
  have eD : PyData.tuple [.int T.room, .tuple (C T.cts), .int T.lt, .int (things L)] = T.d := by rw [← g.tot]; rfl
  have eS : PyData.list (L.map Th.d) = DL.St L := rfl
  rw [eD, eS]
  refine ⟨fun hu => ?_, fun _ => go⟩
  have z := g.none hu
  have z2 : (C T.cts).length = unlike L := by unfold C; rw [List.length_map]; exact g.full hu
  simp [z, z2]
  exact go
abbrev M26 : PyData := .list ((DL.words).map .str)
section
variable {N : List Sl → Prop} {R : Sl → List Sl → Prop} {B C' : List Sl → Prop} {r : Int} {t : Tr} {d : PyData} {k : Nat} {ns : List Int} {s1 : Sl}
def I12 (r : Int) (t : Tr) (k : Nat) (f : PyData → List Sl) (u : List Nat) (acc : List Tl) (δ : List Sl) : Prop := ∃ (d' : PyData) (k' : Nat), Pen d' k' ∧ k' ≤ k + 30 * u.length ∧ (∀ T ∈ acc, GoodT r T t.strm) ∧ δ = f d'
theorem law12 {T : Tl} (hr : 1 ≤ r ∧ r ≤ 20) (hw : t.All Wd) (hp : Pen d k) (hk : k < 5000) (hd : t.deep < 10) (hpa : t.parts ≤ 8) (hlen : t.strm.length < 1000) {s4 s5 s8 s9 s10 s11 : Sl} (h4 : s4 = .sh t.d) (h5 : s5 = .sh (DL.St t.strm)) (i8 : isIo s8 = false) (i9 : Pl s9) (i10 : s10 = .no) (i11 : s11 = .no)
    (q : ∀ d s4 s5 s6 s7 s8 s9, isIo s4 = false → isIo s5 = false → isIo s6 = false → isIo s7 = false → isIo s8 = false → Pl s9 → N [.sh (.list (ns.map .int)), s1, .ow d, .sh (.int r), s4, s5, s6, s7, s8, s9, .no, .no]) :
    wS (m_law_12 [.sh (.list (ns.map .int)), s1, .ow d, .sh (.int r), s4, s5, .sh M26, .sh T.d, s8, s9, s10, s11]) N R B C' := by
  subst h4 h5 i10 i11
  have hwl := wd_strm hw
  simp [m_law_12]
  refine wL_preU (fun k : Nat => PyData.int (k : Int)) Tl.d (List.range 3) (I12 r t k (fun d' => [.sh (.list (ns.map .int)), s1, .ow d', .sh (.int r), .sh t.d, .sh (DL.St t.strm), .sh M26, .sh T.d, s8, s9, .no, .no])) (by simp) ?_ ⟨d, k, hp, by simp, (fun x m => nomatch m), rfl⟩ ?_
  · rintro u x v hv acc δ ⟨d', k', p', hk', ha, rfl⟩ hl
    have hu := congrArg List.length hv
    simp at hu
    simp
    refine streams_spec 24 (by omega) (by omega) ?_
    simp
    refine shaped_spec (by rw [t.strs_len]; exact ⟨t.parts_pos, by omega⟩) p' (by omega) fun t' d2 k2 hp2 p2 hk2 => ?_
    have hst := t.strs_len
    have hst' := t'.strs_len
    have hpl := hp2.length_eq
    have hdl := t'.deep_lt
    have hw' : t'.All Wd := Tr.all_strs.mpr fun l m => Tr.all_strs.mp hw l (hp2.mem_iff.mp m)
    simp
    refine grown_tally_spec hr (by omega) hw' ?_
    simp
    refine ⟨t'.tl r, rfl, d2, k2, p2, by simp; omega, ?_, rfl⟩
    intro T m
    rcases List.mem_append.mp m with m | m
    · exact ha T m
    · rw [List.mem_singleton.mp m]
      exact (Tr.good hr hw').perm (List.Perm.flatten hp2)
  · rintro acc δ ⟨d', k', p', hk', ha, rfl⟩ hl
    have g1 := GoodT.strm hr hwl
    have hwr : Wd t.strm.reverse := fun x m => hwl x (by simpa using m)
    have g2 := (GoodT.strm hr hwr).perm (List.reverse_perm t.strm)
    have er : PyData.list (t.strm.map Th.d).reverse = DL.St t.strm.reverse := by unfold DL.St; rw [List.map_reverse]
    have hl3 : acc.length = 3 := by simpa using hl
    simp [i8, m_law_13]
    refine tally_of_spec hr hwl ?_
    simp [DL.St]
    rw [er]
    refine tally_of_spec hr hwr ?_
    simp
    refine ⟨by omega, ?_⟩
    have ea : acc.map Tl.d ++ [((Tl.none r).adds t.strm).d, ((Tl.none r).adds t.strm.reverse).d] = (acc ++ [(Tl.none r).adds t.strm, (Tl.none r).adds t.strm.reverse]).map Tl.d := by simp
    rw [ea]
    refine wS_pre Tl.d (acc ++ [(Tl.none r).adds t.strm, (Tl.none r).adds t.strm.reverse]) (fun u δ => ∃ s9, Pl s9 ∧ δ = [.sh (.list (ns.map .int)), s1, .ow d', .sh (.int r), .sh t.d, .sh (DL.St t.strm), .sh M26, .sh T.d, .ow (.list (acc.map Tl.d)), s9, .no, .no]) ?_ ⟨_, i9, rfl⟩ ?_
    · rintro u x v hv δ ⟨s9, i9, rfl⟩
      have mx : x ∈ acc ++ [(Tl.none r).adds t.strm, (Tl.none r).adds t.strm.reverse] := by rw [hv]; simp
      have gx : GoodT r x t.strm := by
        simp at mx
        rcases mx with m | rfl | rfl
        · exact ha x m
        · exact g1
        · exact g2
      simp [i9.io, m_law_14]
      refine holds_spec gx (by omega) (by simp [words_len]) ?_
      simp
    · rintro δ ⟨s9, i9, rfl⟩
      exact q _ _ _ _ _ _ _ rfl rfl rfl rfl rfl i9
theorem law5 {s4 s5 s6 s7 s8 s9 : Sl} (hr : 1 ≤ r ∧ r ≤ 20) (hw : t.All Wd) (hp : Pen d k) (hk : k < 4000) (hpa : t.parts ≤ 8) (hlen : t.strm.length < 1000) (hbig : things t.strm < 100000000000000000000) (h4 : s4 = .sh t.d ∨ s4 = .ow t.d) (i5 : isIo s5 = false) (i6 : isIo s6 = false) (i7 : isIo s7 = false) (i8 : isIo s8 = false) (i9 : Pl s9)
    (q : ∀ d s4 s5 s6 s7 s8 s9, isIo s4 = false → isIo s5 = false → isIo s6 = false → isIo s7 = false → isIo s8 = false → Pl s9 → N [.sh (.list (ns.map .int)), s1, .ow d, .sh (.int r), s4, s5, s6, s7, s8, s9, .no, .no]) :
    wS (m_law_5 [.sh (.list (ns.map .int)), s1, .ow d, .sh (.int r), s4, s5, s6, s7, s8, s9, .no, .no]) N R B C' := by
  have hdl := t.deep_lt
  have f := Tr.fit hr hw
  have sl : Sh 3 (t.tl r).d := Tl.sh (fit_str f)
  have key : wS (m_law_6 [.sh (.list (ns.map .int)), s1, .ow d, .sh (.int r), .sh t.d, .ow (DL.St t.strm), s6, s7, s8, s9, .no, .no]) N R B C' := by
    simp [m_law_6]
    refine wL_mapU (fun k : Nat => PyData.int (k : Int)) (List.range 26) (fun k => .str (wordAt (k : Int))) (by simp) ?_ ?_
    · intro x mx
      simp
      refine word_spec ?_
      simp
    have e6 : PyData.list ((List.range 26).map fun k : Nat => PyData.str (wordAt (k : Int))) = M26 := by
      unfold M26
      rw [← wordAt_map, List.map_map]
      rfl
    rw [e6]
    simp [i6, m_law_7]
    refine grown_tally_spec hr (by omega) hw ?_
    simp [i7, m_law_8]
    refine turned_spec 24 (by omega) ?_
    simp
    refine grown_tally_spec hr (by rw [t.turn_deep]; omega) (Tr.turn_all hw) ?_
    rw [Tr.turn_tl hr hw]
    simp
    rw [wg_neSelf (sl.shaped (by omega))]
    simp
    refine holds_spec (Tr.good hr hw) hlen (by simp [words_len]) ?_
    simp [m_law_10]
    refine with_spec 24 (by omega) hp (by omega) fun b d2 k2 hb bd p2 hk2 => ?_
    simp
    have hbw : b.All Wd := hb.all (fun x m => nomatch m) hw
    refine grown_tally_spec hr (by omega) hbw ?_
    rw [hb.tl hr hw hbig]
    simp
    rw [wg_neSelf (sl.shaped (by omega))]
    simp
    exact law12 hr hw p2 (by omega) (by omega) hpa hlen rfl rfl i8 i9 rfl rfl q
  rcases h4 with rfl | rfl <;> simp [m_law_5] <;> refine stream_of_spec 24 (by omega) (by omega) ?_ <;> simp [i5] <;> exact key
end
theorem law_true : ∀ ns : List Int, ns.length ≤ 63 → (∀ z ∈ ns, Builtin.Int.intBits z ≤ 1048576) → F_law [.list (ns.map .int)] = .ok (.sh (.bool true)) none := by
  intro ns hn _
  refine wF_ok ?_
  simp [F_law, m_law, wF_runP]
  refine wS_pre (fun k : Nat => PyData.int (k : Int)) (List.range 2) (fun u δ => ∃ s1 s2 s3 s4 s5 s6 s7 s8 s9, isIo s1 = false ∧ isIo s2 = false ∧ isIo s3 = false ∧ isIo s4 = false ∧ isIo s5 = false ∧ isIo s6 = false ∧ isIo s7 = false ∧ isIo s8 = false ∧ Pl s9 ∧ δ = [.sh (.list (ns.map .int)), s1, s2, s3, s4, s5, s6, s7, s8, s9, .no, .no]) ?_ ⟨.no, .no, .no, .no, .no, .no, .no, .no, .no, rfl, rfl, rfl, rfl, rfl, rfl, rfl, rfl, .no, rfl⟩ ?_
  · rintro u x v hv δ ⟨s1, s2, s3, s4, s5, s6, s7, s8, s9, h1, h2, h3, h4, h5, h6, h7, h8, h9, rfl⟩
    have hx : x < 2 := by have : x ∈ List.range 2 := by rw [hv]; simp
                          exact List.mem_range.mp this
    simp [h1, m_law_2]
    refine pen_spec (by omega) ⟨by omega, by omega⟩ fun d p => ?_
    simp [h2, m_law_3]
    refine room_spec p (by omega) fun r d2 r0 r1 p2 => ?_
    simp [h3, m_law_4]
    refine draw_spec p2 (by omega) ⟨by omega, by unfold lim; omega⟩ fun w d3 w0 w1 p3 => ?_
    simp
    refine pickI [3, 9, 26] w0 (by simpa using w1) fun a ha => ?_
    have ha2 : 0 < a ∧ a < 100 := by simp at ha; omega
    simp
    refine draw_spec p3 (by omega) ⟨by omega, by unfold lim; omega⟩ fun n d4 n0 n1 p4 => ?_
    simp
    obtain ⟨p, hpn⟩ : ∃ p : Nat, (p : Int) = 1 + n := ⟨(1 + n).toNat, by omega⟩
    rw [← hpn]
    have hb : p * (4 + 9 * (10 : Int).toNat) ≤ 8 * 94 := Nat.mul_le_mul (by omega) (by decide)
    refine tree_spec ha2 ⟨by omega, by omega⟩ ⟨by omega, by omega⟩ 24 (p := p) p4 (by omega) (by omega) (by omega) (by omega) fun t d5 k5 s gt pt p5 hk5 hs => ?_
    have g2 := strm_len (n := 10) (t := t) (Tr.All.mono (fun l k => by have := k.2; omega) gt)
    have g3 := Grw.tot (by decide) gt
    have g4 : (t.parts : Int) * (10 * 1000000001) ≤ 8 * (10 * 1000000001) := Int.mul_le_mul_of_nonneg_right (by omega) (by decide)
    have go : ∀ {B C' : List Sl → Prop}, wS (m_law_5 [.sh (.list (ns.map .int)), .sh (.int (x : Nat)), .ow d5, .sh (.int r), s, s5, s6, s7, s8, s9, .no, .no]) (fun δ => ∃ s1 s2 s3 s4 s5 s6 s7 s8 s9, isIo s1 = false ∧ isIo s2 = false ∧ isIo s3 = false ∧ isIo s4 = false ∧ isIo s5 = false ∧ isIo s6 = false ∧ isIo s7 = false ∧ isIo s8 = false ∧ Pl s9 ∧ δ = [.sh (.list (ns.map .int)), s1, s2, s3, s4, s5, s6, s7, s8, s9, .no, .no]) (fun r _ => match r with
      | .sh d => Sl.sh d = .sh (.bool true)
      | .ow d => Sl.ow d = .sh (.bool true)
      | .raw v => Sl.raw v = .sh (.bool true)
      | _ => False) B C' := law5 ⟨r0, r1⟩ (Grw.wd gt) p5 (by omega) (by omega) (by omega) (by omega) hs h5 h6 h7 h8 h9 fun d s4 s5 s6 s7 s8 s9 a4 a5 a6 a7 a8 a9 => ⟨_, _, _, s4, s5, s6, s7, s8, s9, rfl, rfl, rfl, a4, a5, a6, a7, a8, a9, rfl⟩
    rcases hs with rfl | rfl <;> simp [h4] <;> exact go
  · rintro δ ⟨s1, s2, s3, s4, s5, s6, s7, s8, s9, h1, h2, h3, h4, h5, h6, h7, h8, h9, rfl⟩
    simp [m_law_16]
end K10

set_option Elab.async false
set_option linter.all false
set_option maxRecDepth 100000
set_option maxHeartbeats 4000000
namespace K10
open PySem PySem.Spec PyProof.Rows L2 DL
/-! ### the head: facts by names, the run -/
def d_sums_of : He.DefD := ⟨("sums_of", none), "sums_of", "sums_of", defArgs s_sums_of, defBody s_sums_of, defScope s_sums_of, [], []⟩
def d_cut_of : He.DefD := ⟨("cut_of", none), "cut_of", "cut_of", defArgs s_cut_of, defBody s_cut_of, defScope s_cut_of, [], []⟩
def d_empty_tally : He.DefD := ⟨("empty_tally", none), "empty_tally", "empty_tally", defArgs s_empty_tally, defBody s_empty_tally, defScope s_empty_tally, [], []⟩
def d_thing_tally : He.DefD := ⟨("thing_tally", none), "thing_tally", "thing_tally", defArgs s_thing_tally, defBody s_thing_tally, defScope s_thing_tally, [], []⟩
def d_count_in : He.DefD := ⟨("count_in", none), "count_in", "count_in", defArgs s_count_in, defBody s_count_in, defScope s_count_in, [], []⟩
def d_L_pen : He.DefD := ⟨("_law_pen", none), "_law_pen", "_law_pen", defArgs s_L_pen, defBody s_L_pen, defScope s_L_pen, [], []⟩
def d_L_draw : He.DefD := ⟨("_law_draw", none), "_law_draw", "_law_draw", defArgs s_L_draw, defBody s_L_draw, defScope s_L_draw, [], []⟩
def d_L_word : He.DefD := ⟨("_law_word", none), "_law_word", "_law_word", defArgs s_L_word, defBody s_L_word, defScope s_L_word, [], []⟩
def d_L_times : He.DefD := ⟨("_law_times", none), "_law_times", "_law_times", defArgs s_L_times, defBody s_L_times, defScope s_L_times, [], []⟩
def d_merged_tally : He.DefD := ⟨("merged_tally", none), "merged_tally", "merged_tally", defArgs s_merged_tally, defBody s_merged_tally, defScope s_merged_tally, [], []⟩
def d_bounds_of : He.DefD := ⟨("bounds_of", none), "bounds_of", "bounds_of", defArgs s_bounds_of, defBody s_bounds_of, defScope s_bounds_of, [], []⟩
def d_L_many : He.DefD := ⟨("_law_many", none), "_law_many", "_law_many", defArgs s_L_many, defBody s_L_many, defScope s_L_many, [], []⟩
def d_L_room : He.DefD := ⟨("_law_room", none), "_law_room", "_law_room", defArgs s_L_room, defBody s_L_room, defScope s_L_room, [], []⟩
def d_L_shaped : He.DefD := ⟨("_law_shaped", none), "_law_shaped", "_law_shaped", defArgs s_L_shaped, defBody s_L_shaped, defScope s_L_shaped, [], []⟩
def d_tally_of : He.DefD := ⟨("tally_of", none), "tally_of", "tally_of", defArgs s_tally_of, defBody s_tally_of, defScope s_tally_of, [], []⟩
def d_L_thing : He.DefD := ⟨("_law_thing", none), "_law_thing", "_law_thing", defArgs s_L_thing, defBody s_L_thing, defScope s_L_thing, [], []⟩
def d_L_holds : He.DefD := ⟨("_law_holds", none), "_law_holds", "_law_holds", defArgs s_L_holds, defBody s_L_holds, defScope s_L_holds, [], []⟩
def d_L_stream : He.DefD := ⟨("_law_stream", none), "_law_stream", "_law_stream", defArgs s_L_stream, defBody s_L_stream, defScope s_L_stream, [], []⟩
def d_grown : He.DefD := ⟨("grown", none), "grown", "grown", defArgs s_grown, defBody s_grown, defScope s_grown, [], []⟩
def d_L_stream_of : He.DefD := ⟨("_law_stream_of", none), "_law_stream_of", "_law_stream_of", defArgs s_L_stream_of, defBody s_L_stream_of, defScope s_L_stream_of, [], []⟩
def d_L_turned : He.DefD := ⟨("_law_turned", none), "_law_turned", "_law_turned", defArgs s_L_turned, defBody s_L_turned, defScope s_L_turned, [], []⟩
def d_L_streams : He.DefD := ⟨("_law_streams", none), "_law_streams", "_law_streams", defArgs s_L_streams, defBody s_L_streams, defScope s_L_streams, [], []⟩
def d_L_with_nothing : He.DefD := ⟨("_law_with_nothing", none), "_law_with_nothing", "_law_with_nothing", defArgs s_L_with_nothing, defBody s_L_with_nothing, defScope s_L_with_nothing, [], []⟩
def d_grown_tally : He.DefD := ⟨("grown_tally", none), "grown_tally", "grown_tally", defArgs s_grown_tally, defBody s_grown_tally, defScope s_grown_tally, [], []⟩
def d_L_tree : He.DefD := ⟨("_law_tree", none), "_law_tree", "_law_tree", defArgs s_L_tree, defBody s_L_tree, defScope s_L_tree, [], []⟩
def d_law : He.DefD := ⟨("law", none), "law", "law", defArgs s_law, defBody s_law, defScope s_law, [], []⟩
def fnl0 : List He.DefD := [d_sums_of, d_cut_of, d_empty_tally, d_thing_tally, d_count_in, d_L_pen, d_L_draw, d_L_word, d_L_times, d_merged_tally, d_bounds_of, d_L_many, d_L_room, d_L_shaped, d_tally_of, d_L_thing, d_L_holds, d_L_stream, d_grown, d_L_stream_of, d_L_turned, d_L_streams, d_L_with_nothing, d_grown_tally, d_L_tree, d_law]
def fnl : List He.DefD := fnl0
def fal0 : List He.Fa := [.glo "sums_of", .glo "cut_of", .glo "empty_tally", .glo "thing_tally", .glo "count_in", .glo "_law_pen", .glo "_law_draw", .glo "_law_word", .glo "_law_times", .glo "merged_tally", .glo "bounds_of", .glo "_law_many", .glo "_law_room", .glo "_law_shaped", .glo "tally_of", .glo "_law_thing", .glo "_law_holds", .glo "_law_stream", .glo "grown", .glo "_law_stream_of", .glo "_law_turned", .glo "_law_streams", .glo "_law_with_nothing", .glo "grown_tally", .glo "_law_tree", .glo "law", .free "len", .free "sorted", .free "dict", .free "sum"]
def fal1 : List He.Fa := [.free "tuple", .free "set", .free "range", .free "isinstance", .free "list", .glo "NoRoom", .exc "NoRoom"]
def fal : List He.Fa := fal0 ++ fal1
def loose0 : List Str := ["sums_of", "cut_of", "ShareError", "NoRoom", "grown", "empty_tally", "thing_tally", "merged_tally", "tally_of", "grown_tally", "count_in", "bounds_of", "_law_pen", "_law_draw", "_law_word", "_law_many", "_law_thing", "_law_stream", "_law_tree", "_law_stream_of", "_law_room", "_law_times", "_law_turned", "_law_with_nothing", "_law_streams", "_law_shaped", "_law_holds"]
def loose : List Str := loose0
abbrev Rr : PySem.W.OpenRow := PySem.W.OpenLaw.row PySem.Challenge.rw_sumshare_k10_whole_shapes_and_sides
def tf : List Str := ["grown_tally", "law"]
abbrev exB : PySem.W.Frag → Bool := fun K => lamB tf K
abbrev hk : PySem.W.Hook := He.hookX 4 fal fnl [] (tf.map fun x => (x, none)) exB
def ob (s : PySem.W.SharedT) : He.AlX := He.obsX 4 fal fnl [] (tf.map fun x => (x, none)) exB (HandSHeadRun.getT s)
theorem ob_eq (s : PySem.W.SharedT) : ob s = hk.obs s.abs := He.obsX_eq (HandSHeadRun.getT_eq s)
theorem run (w : World) : HandSHeadRun.RunEq Rr (PySem.W.view Rr.prog [32]) hk ob 3180 loose w := by
  intro os
  kernel_rfl
theorem facts {P : Program} {w : World} {K : PySem.W.Frag} {h : Heap} {mg : Str → Option Value} {f : Addr} (X : K.In h) (G : h.Ns mainGlobals mg) (hfa : mg ("law" : Str) = some (.ref f)) (c : He.SaysD fal fnl K) (hex : exB K = true) :
    ∃ fd : FuncData, (∀ (s : Shared) (v : Value), BindsTo s fd ⟨[v], []⟩ [("_law_script", v)]) ∧ ∀ base : Heap, K.In base → base.Ns mainGlobals mg → (∀ x ∈ tf, LamX.TabB base mg (codA K x) (tabA K x)) → FnOk P w K mg base (L2.CX P w) 30 f fd ["_law_script"] (spP K (clG K) F_law) := by
  obtain ⟨fd_sums_of, FD_sums_of⟩ := c.def_ 0 (d := d_sums_of) rfl
  obtain ⟨fd_cut_of, FD_cut_of⟩ := c.def_ 1 (d := d_cut_of) rfl
  obtain ⟨fd_empty_tally, FD_empty_tally⟩ := c.def_ 2 (d := d_empty_tally) rfl
  obtain ⟨fd_thing_tally, FD_thing_tally⟩ := c.def_ 3 (d := d_thing_tally) rfl
  obtain ⟨fd_count_in, FD_count_in⟩ := c.def_ 4 (d := d_count_in) rfl
  obtain ⟨fd_L_pen, FD_L_pen⟩ := c.def_ 5 (d := d_L_pen) rfl
  obtain ⟨fd_L_draw, FD_L_draw⟩ := c.def_ 6 (d := d_L_draw) rfl
  obtain ⟨fd_L_word, FD_L_word⟩ := c.def_ 7 (d := d_L_word) rfl
  obtain ⟨fd_L_times, FD_L_times⟩ := c.def_ 8 (d := d_L_times) rfl
  obtain ⟨fd_merged_tally, FD_merged_tally⟩ := c.def_ 9 (d := d_merged_tally) rfl
  obtain ⟨fd_bounds_of, FD_bounds_of⟩ := c.def_ 10 (d := d_bounds_of) rfl
  obtain ⟨fd_L_many, FD_L_many⟩ := c.def_ 11 (d := d_L_many) rfl
  obtain ⟨fd_L_room, FD_L_room⟩ := c.def_ 12 (d := d_L_room) rfl
  obtain ⟨fd_L_shaped, FD_L_shaped⟩ := c.def_ 13 (d := d_L_shaped) rfl
  obtain ⟨fd_tally_of, FD_tally_of⟩ := c.def_ 14 (d := d_tally_of) rfl
  obtain ⟨fd_L_thing, FD_L_thing⟩ := c.def_ 15 (d := d_L_thing) rfl
  obtain ⟨fd_L_holds, FD_L_holds⟩ := c.def_ 16 (d := d_L_holds) rfl
  obtain ⟨fd_L_stream, FD_L_stream⟩ := c.def_ 17 (d := d_L_stream) rfl
  obtain ⟨fd_grown, FD_grown⟩ := c.def_ 18 (d := d_grown) rfl
  obtain ⟨fd_L_stream_of, FD_L_stream_of⟩ := c.def_ 19 (d := d_L_stream_of) rfl
  obtain ⟨fd_L_turned, FD_L_turned⟩ := c.def_ 20 (d := d_L_turned) rfl
  obtain ⟨fd_L_streams, FD_L_streams⟩ := c.def_ 21 (d := d_L_streams) rfl
  obtain ⟨fd_L_with_nothing, FD_L_with_nothing⟩ := c.def_ 22 (d := d_L_with_nothing) rfl
  obtain ⟨fd_grown_tally, FD_grown_tally⟩ := c.def_ 23 (d := d_grown_tally) rfl
  obtain ⟨fd_L_tree, FD_L_tree⟩ := c.def_ 24 (d := d_L_tree) rfl
  obtain ⟨fd_law, FD_law⟩ := c.def_ 25 (d := d_law) rfl
  have g_sums_of := He.glo_ok X G (c.fact 0 (f := .glo "sums_of") rfl)
  have b_sums_of : Binds K fd_sums_of ["one", "other"] [] := FunD.bindsN FD_sums_of fun _ _ _ _ _ _ us hl => match us, hl with | [_, _], _ => rfl
  have g_cut_of := He.glo_ok X G (c.fact 1 (f := .glo "cut_of") rfl)
  have b_cut_of : Binds K fd_cut_of ["room", "sums"] [] := FunD.bindsN FD_cut_of fun _ _ _ _ _ _ us hl => match us, hl with | [_, _], _ => rfl
  have g_empty_tally := He.glo_ok X G (c.fact 2 (f := .glo "empty_tally") rfl)
  have b_empty_tally : Binds K fd_empty_tally ["room"] [] := FunD.bindsN FD_empty_tally fun _ _ _ _ _ _ us hl => match us, hl with | [_], _ => rfl
  have g_thing_tally := He.glo_ok X G (c.fact 3 (f := .glo "thing_tally") rfl)
  have b_thing_tally : Binds K fd_thing_tally ["room", "thing"] [] := FunD.bindsN FD_thing_tally fun _ _ _ _ _ _ us hl => match us, hl with | [_, _], _ => rfl
  have g_count_in := He.glo_ok X G (c.fact 4 (f := .glo "count_in") rfl)
  have b_count_in : Binds K fd_count_in ["tally", "mark"] [] := FunD.bindsN FD_count_in fun _ _ _ _ _ _ us hl => match us, hl with | [_, _], _ => rfl
  have g_L_pen := He.glo_ok X G (c.fact 5 (f := .glo "_law_pen") rfl)
  have b_L_pen : Binds K fd_L_pen ["_law_script", "_law_k"] [] := FunD.bindsN FD_L_pen fun _ _ _ _ _ _ us hl => match us, hl with | [_, _], _ => rfl
  have g_L_draw := He.glo_ok X G (c.fact 6 (f := .glo "_law_draw") rfl)
  have b_L_draw : Binds K fd_L_draw ["_law_pen_here", "_law_size"] [] := FunD.bindsN FD_L_draw fun _ _ _ _ _ _ us hl => match us, hl with | [_, _], _ => rfl
  have g_L_word := He.glo_ok X G (c.fact 7 (f := .glo "_law_word") rfl)
  have b_L_word : Binds K fd_L_word ["_law_pen_here", "_law_k"] [] := FunD.bindsN FD_L_word fun _ _ _ _ _ _ us hl => match us, hl with | [_, _], _ => rfl
  have g_L_times := He.glo_ok X G (c.fact 8 (f := .glo "_law_times") rfl)
  have b_L_times : Binds K fd_L_times ["_law_stream_here", "_law_mark"] [] := FunD.bindsN FD_L_times fun _ _ _ _ _ _ us hl => match us, hl with | [_, _], _ => rfl
  have g_merged_tally := He.glo_ok X G (c.fact 9 (f := .glo "merged_tally") rfl)
  have b_merged_tally : Binds K fd_merged_tally ["one", "other"] [] := FunD.bindsN FD_merged_tally fun _ _ _ _ _ _ us hl => match us, hl with | [_, _], _ => rfl
  have g_bounds_of := He.glo_ok X G (c.fact 10 (f := .glo "bounds_of") rfl)
  have b_bounds_of : Binds K fd_bounds_of ["tally", "mark"] [] := FunD.bindsN FD_bounds_of fun _ _ _ _ _ _ us hl => match us, hl with | [_, _], _ => rfl
  have g_L_many := He.glo_ok X G (c.fact 11 (f := .glo "_law_many") rfl)
  have b_L_many : Binds K fd_L_many ["_law_pen_here"] [] := FunD.bindsN FD_L_many fun _ _ _ _ _ _ us hl => match us, hl with | [_], _ => rfl
  have g_L_room := He.glo_ok X G (c.fact 12 (f := .glo "_law_room") rfl)
  have b_L_room : Binds K fd_L_room ["_law_pen_here"] [] := FunD.bindsN FD_L_room fun _ _ _ _ _ _ us hl => match us, hl with | [_], _ => rfl
  have g_L_shaped := He.glo_ok X G (c.fact 13 (f := .glo "_law_shaped") rfl)
  have b_L_shaped : Binds K fd_L_shaped ["_law_pen_here", "_law_streams_here"] [] := FunD.bindsN FD_L_shaped fun _ _ _ _ _ _ us hl => match us, hl with | [_, _], _ => rfl
  have g_tally_of := He.glo_ok X G (c.fact 14 (f := .glo "tally_of") rfl)
  have b_tally_of : Binds K fd_tally_of ["room", "stream"] [] := FunD.bindsN FD_tally_of fun _ _ _ _ _ _ us hl => match us, hl with | [_, _], _ => rfl
  have g_L_thing := He.glo_ok X G (c.fact 15 (f := .glo "_law_thing") rfl)
  have b_L_thing : Binds K fd_L_thing ["_law_pen_here", "_law_marks", "_law_deep"] [] := FunD.bindsN FD_L_thing fun _ _ _ _ _ _ us hl => match us, hl with | [_, _, _], _ => rfl
  have g_L_holds := He.glo_ok X G (c.fact 16 (f := .glo "_law_holds") rfl)
  have b_L_holds : Binds K fd_L_holds ["_law_tally", "_law_stream_here", "_law_marks", "_law_room_here"] [] := FunD.bindsN FD_L_holds fun _ _ _ _ _ _ us hl => match us, hl with | [_, _, _, _], _ => rfl
  have g_L_stream := He.glo_ok X G (c.fact 17 (f := .glo "_law_stream") rfl)
  have b_L_stream : Binds K fd_L_stream ["_law_pen_here", "_law_marks", "_law_deep", "_law_most"] [] := FunD.bindsN FD_L_stream fun _ _ _ _ _ _ us hl => match us, hl with | [_, _, _, _], _ => rfl
  have g_grown := He.glo_ok X G (c.fact 18 (f := .glo "grown") rfl)
  have b_grown : Binds K fd_grown ["tree", "leaf", "join"] [] := FunD.bindsN FD_grown fun _ _ _ _ _ _ us hl => match us, hl with | [_, _, _], _ => rfl
  have g_L_stream_of := He.glo_ok X G (c.fact 19 (f := .glo "_law_stream_of") rfl)
  have b_L_stream_of : Binds K fd_L_stream_of ["_law_tree_here"] [] := FunD.bindsN FD_L_stream_of fun _ _ _ _ _ _ us hl => match us, hl with | [_], _ => rfl
  have g_L_turned := He.glo_ok X G (c.fact 20 (f := .glo "_law_turned") rfl)
  have b_L_turned : Binds K fd_L_turned ["_law_tree_here"] [] := FunD.bindsN FD_L_turned fun _ _ _ _ _ _ us hl => match us, hl with | [_], _ => rfl
  have g_L_streams := He.glo_ok X G (c.fact 21 (f := .glo "_law_streams") rfl)
  have b_L_streams : Binds K fd_L_streams ["_law_tree_here"] [] := FunD.bindsN FD_L_streams fun _ _ _ _ _ _ us hl => match us, hl with | [_], _ => rfl
  have g_L_with_nothing := He.glo_ok X G (c.fact 22 (f := .glo "_law_with_nothing") rfl)
  have b_L_with_nothing : Binds K fd_L_with_nothing ["_law_pen_here", "_law_tree_here"] [] := FunD.bindsN FD_L_with_nothing fun _ _ _ _ _ _ us hl => match us, hl with | [_, _], _ => rfl
  have g_grown_tally := He.glo_ok X G (c.fact 23 (f := .glo "grown_tally") rfl)
  have b_grown_tally : Binds K fd_grown_tally ["room", "tree"] [] := FunD.bindsN FD_grown_tally fun _ _ _ _ _ _ us hl => match us, hl with | [_, _], _ => rfl
  have g_L_tree := He.glo_ok X G (c.fact 24 (f := .glo "_law_tree") rfl)
  have b_L_tree : Binds K fd_L_tree ["_law_pen_here", "_law_marks", "_law_deep", "_law_most", "_law_parts"] [] := FunD.bindsN FD_L_tree fun _ _ _ _ _ _ us hl => match us, hl with | [_, _, _, _, _], _ => rfl
  have z_len := He.free_ok X G (c.fact 26 (f := .free "len") rfl)
  have z_sorted := He.free_ok X G (c.fact 27 (f := .free "sorted") rfl)
  have z_dict := He.free_ok X G (c.fact 28 (f := .free "dict") rfl)
  have z_sum := He.free_ok X G (c.fact 29 (f := .free "sum") rfl)
  have z_tuple := He.free_ok X G (c.fact 30 (f := .free "tuple") rfl)
  have z_set := He.free_ok X G (c.fact 31 (f := .free "set") rfl)
  have z_range := He.free_ok X G (c.fact 32 (f := .free "range") rfl)
  have z_isinstance := He.free_ok X G (c.fact 33 (f := .free "isinstance") rfl)
  have z_list := He.free_ok X G (c.fact 34 (f := .free "list") rfl)
  have c_NoRoom := He.glo_ok X G (c.fact 35 (f := .glo "NoRoom") rfl)
  have x_NoRoom := He.exc_ok (c.fact 36 (f := .exc "NoRoom") rfl)
  have e := hfa.symm.trans (He.glo_ok X G (c.fact 25 (f := .glo "law") rfl))
  cases e
  have b := FunD.bindsA (ps := ["_law_script"]) FD_law fun _ _ _ _ _ _ us hl => match us, hl with | [_], _ => rfl
  refine ⟨fd_law, fun s v => b s [v] rfl, fun base _ _ TBs => ?_⟩
  obtain ⟨_, lz, lu⟩ := lamB_ok hex
  have G_sums_of := ok_sums_of (P := P) (w := w) (mg := mg) (base := base) FD_sums_of 
  have G_cut_of := ok_cut_of (P := P) (w := w) (mg := mg) (base := base) FD_cut_of z_len z_sorted
  have G_empty_tally := ok_empty_tally (P := P) (w := w) (mg := mg) (base := base) FD_empty_tally 
  have G_thing_tally := ok_thing_tally (P := P) (w := w) (mg := mg) (base := base) FD_thing_tally 
  have G_count_in := ok_count_in (P := P) (w := w) (mg := mg) (base := base) FD_count_in z_dict
  have G_L_pen := ok_L_pen (P := P) (w := w) (mg := mg) (base := base) FD_L_pen z_len
  have G_L_draw := ok_L_draw (P := P) (w := w) (mg := mg) (base := base) FD_L_draw 
  have G_L_word := ok_L_word (P := P) (w := w) (mg := mg) (base := base) FD_L_word 
  have G_L_times := ok_L_times (P := P) (w := w) (mg := mg) (base := base) FD_L_times z_sum
  have G_merged_tally := ok_merged_tally (P := P) (w := w) (mg := mg) (base := base) FD_merged_tally c_NoRoom x_NoRoom G_sums_of g_sums_of FD_sums_of.kp b_sums_of G_cut_of g_cut_of FD_cut_of.kp b_cut_of z_tuple z_sorted
  have G_bounds_of := ok_bounds_of (P := P) (w := w) (mg := mg) (base := base) FD_bounds_of G_count_in g_count_in FD_count_in.kp b_count_in
  have G_L_many := ok_L_many (P := P) (w := w) (mg := mg) (base := base) FD_L_many G_L_draw g_L_draw FD_L_draw.kp b_L_draw
  have G_L_room := ok_L_room (P := P) (w := w) (mg := mg) (base := base) FD_L_room G_L_draw g_L_draw FD_L_draw.kp b_L_draw
  have G_L_shaped := ok_L_shaped (P := P) (w := w) (mg := mg) (base := base) FD_L_shaped G_L_draw g_L_draw FD_L_draw.kp b_L_draw z_len
  have G_tally_of := ok_tally_of (P := P) (w := w) (mg := mg) (base := base) FD_tally_of G_empty_tally g_empty_tally FD_empty_tally.kp b_empty_tally G_merged_tally g_merged_tally FD_merged_tally.kp b_merged_tally G_thing_tally g_thing_tally FD_thing_tally.kp b_thing_tally
  have G_L_thing := ok_L_thing (P := P) (w := w) (mg := mg) (base := base) FD_L_thing G_L_draw g_L_draw FD_L_draw.kp b_L_draw G_L_many g_L_many FD_L_many.kp b_L_many G_L_word g_L_word FD_L_word.kp b_L_word
  have G_L_holds := ok_L_holds (P := P) (w := w) (mg := mg) (base := base) FD_L_holds z_sum z_len z_set G_bounds_of g_bounds_of FD_bounds_of.kp b_bounds_of G_L_times g_L_times FD_L_times.kp b_L_times
  have G_L_stream := ok_L_stream (P := P) (w := w) (mg := mg) (base := base) FD_L_stream z_range G_L_draw g_L_draw FD_L_draw.kp b_L_draw G_L_thing g_L_thing FD_L_thing.kp b_L_thing
  have G_L_stream_of := ok_L_stream_of (P := P) (w := w) (mg := mg) (base := base) FD_L_stream_of z_isinstance z_list g_L_stream_of FD_L_stream_of.kp b_L_stream_of 24
  have G_L_turned := ok_L_turned (P := P) (w := w) (mg := mg) (base := base) FD_L_turned z_isinstance z_list g_L_turned FD_L_turned.kp b_L_turned 24
  have G_L_streams := ok_L_streams (P := P) (w := w) (mg := mg) (base := base) FD_L_streams z_isinstance z_list g_L_streams FD_L_streams.kp b_L_streams 24
  have G_L_with_nothing := ok_L_with_nothing (P := P) (w := w) (mg := mg) (base := base) FD_L_with_nothing z_isinstance z_tuple G_L_draw g_L_draw FD_L_draw.kp b_L_draw g_L_with_nothing FD_L_with_nothing.kp b_L_with_nothing 24
  have G_grown_tally := ok_grown_tally (P := P) (w := w) (mg := mg) (base := base) FD_grown_tally G_tally_of g_tally_of FD_tally_of.kp b_tally_of G_merged_tally g_merged_tally FD_merged_tally.kp b_merged_tally (ok_grown (P := P) (w := w) (mg := mg) (base := base) FD_grown z_isinstance z_list g_grown FD_grown.kp b_grown 4 F_lam_grown_tally F_lam_grown_tally F_merged_tally 24) g_grown FD_grown.kp rfl (lz "grown_tally" (by decide +kernel) (by decide +kernel)) (TBs "grown_tally" (by decide +kernel)) (lu "grown_tally" (by decide +kernel) (lz "grown_tally" (by decide +kernel) (by decide +kernel)))
  have G_L_tree := ok_L_tree (P := P) (w := w) (mg := mg) (base := base) FD_L_tree G_L_draw g_L_draw FD_L_draw.kp b_L_draw G_L_stream g_L_stream FD_L_stream.kp b_L_stream g_L_tree FD_L_tree.kp b_L_tree 24
  exact ok_law (P := P) (w := w) (mg := mg) (base := base) FD_law z_range G_L_pen g_L_pen FD_L_pen.kp b_L_pen G_L_room g_L_room FD_L_room.kp b_L_room G_L_tree g_L_tree FD_L_tree.kp b_L_tree G_L_draw g_L_draw FD_L_draw.kp b_L_draw G_L_stream_of g_L_stream_of FD_L_stream_of.kp b_L_stream_of G_L_word g_L_word FD_L_word.kp b_L_word G_grown_tally g_grown_tally FD_grown_tally.kp b_grown_tally G_L_turned g_L_turned FD_L_turned.kp b_L_turned G_L_holds g_L_holds FD_L_holds.kp b_L_holds G_L_with_nothing g_L_with_nothing FD_L_with_nothing.kp b_L_with_nothing G_L_shaped g_L_shaped FD_L_shaped.kp b_L_shaped G_L_streams g_L_streams FD_L_streams.kp b_L_streams G_tally_of g_tally_of FD_tally_of.kp b_tally_of
end K10
open PySem PySem.W PySem.Calls PyProof.Rows
set_option maxHeartbeats 0 in
theorem PySem.Challenge.cw_sumshare_k10_whole_shapes_and_sides_holds : PySem.Challenge.rw_sumshare_k10_whole_shapes_and_sides.Holds := by
  w_on; o_law
  refine HandSHeadRun.head_any (r := OpenLaw.row PySem.Challenge.rw_sumshare_k10_whole_shapes_and_sides) (q := view (OpenLaw.row PySem.Challenge.rw_sumshare_k10_whole_shapes_and_sides).prog [32]) (H := K10.hk) (ob := K10.ob) (M := 3180) (loose := K10.loose) (d := HandSHeadRun.topDef (OpenLaw.row PySem.Challenge.rw_sumshare_k10_whole_shapes_and_sides).prog 32) (kwd := []) K10.ob_eq
    (by kernel_rfl) (fun s => by kernel_rfl) K10.run (by kernel_rfl) (by kernel_rfl) (by kernel_rfl) (by rfl) (by first | assumption | decide +kernel) (by decide +kernel) ⟨rfl, rfl, rfl, rfl, rfl, by decide +kernel⟩ ?hw ?hc
  case hw => w_witness2
  case hc =>
    refine DL.walk_D (l := PySem.Challenge.rw_sumshare_k10_whole_shapes_and_sides) (n := 63) (k := 30) (x := "_law_script") (Fl := K10.F_law) rfl (by decide) (by kernel_rfl) ⟨rfl, by decide, by decide⟩ K10.law_true ?F
    intro w mg fa h Y G hmg0
    obtain ⟨K, KX, c⟩ := Y
    have hmg : mg ("law" : PySem.Str) = some (.ref fa) := by
      have e : (HandSHeadRun.topDef (OpenLaw.row PySem.Challenge.rw_sumshare_k10_whole_shapes_and_sides).prog 32).name = ("law" : PySem.Str) := by kernel_rfl
      rw [← e]
      exact hmg0
    have hlb : DL.lamB K10.tf K = true := c.more
    obtain ⟨fd, hb, hF⟩ := K10.facts (P := (PySem.Challenge.rw_sumshare_k10_whole_shapes_and_sides).prog) (w := w) KX G hmg (He.SaysT.d c.t) c.more
    exact ⟨K, fd, K10.clG K, _, KX, DL.head_tabs KX c hlb, hb, fun base h1 h2 h3 => hF base h1 h2 fun x m => h3 _ (List.mem_map.mpr ⟨x, m, rfl⟩)⟩
