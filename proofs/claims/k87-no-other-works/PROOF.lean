import PyProof.Rows.All
import Wide.All
import OpenK.AllK
import Wide.FinOn
import HandS.ForMost
import HandS.Deep
import HandS.TupAny
import HandS.NoneIn
import HandS.DictTup
import KE.KDictDisplayH
import PySem.Challenge.RW_guessroom_k87_whole_no_other_works
set_option Elab.async false
set_option maxRecDepth 100000
set_option maxHeartbeats 4000000
set_option linter.all false
namespace Gr
open PySem L2 PySem.Spec PyProof.Rows

/-! ### heaps -/
theorem same_new {H : Hp} {p : Addr} {o : HO} (h : H p = none) : Same H (upd H p o) := fun b u e => by
  rw [upd_ne (ne_of_none e h)]
  exact e
theorem same_mut {H H' : Hp} {p : Addr} {o : HO} (e : Same H H') (h : H p = none) : Same H (upd H' p o) := fun b u q => by
  rw [upd_ne (ne_of_none q h)]
  exact e b u q

/-! ### tuples: t + u, displays, tuple(list) -/
def rCatX : R2 := fun x y H Q => ∃ a b xs ys, x = .ref a ∧ y = .ref b ∧ H a = some (.tup xs) ∧ H b = some (.tup ys) ∧ xs.length + ys.length ≤ sizeLine ∧
  ∀ p H', Same H H' → H' p = some (.tup (xs ++ ys)) → Q (.ref p) H'
section
variable {X : Cx} {e : Expr} {es : List Expr} {te : TE} {t : TA} {pos : Pos}
theorem op_catX : OpR X (binaryOp .Add) rCatX := by
  intro pins s σ H x y v u Q I rx ry h
  obtain ⟨a, b, xs, ys, hx, hy, ha, hb, hz, q⟩ := h
  refine op_catA pins s σ H x y v u Q I rx ry ⟨a, b, xs, ys, hx, hy, SqT.of ha, SqT.of hb, hz, fun e => ?_, fun _ e => ?_, fun _ _ p hp => ?_⟩
  · subst e
    exact q b H (Same.refl H) (by simpa using hb)
  · subst e
    exact q a H (Same.refl H) (by simpa using ha)
  · exact q p _ (same_new hp) upd_same
def tTupX (t : TA) : TE := fun σ H Q => t σ H fun xs H1 => xs.length ≤ sizeLine ∧ ∀ p H2, Same H1 H2 → H2 p = some (.tup xs) → Q (.ref p) H2
theorem pe_tupX {x1} (h : PA X es t) : PE X (.Tuple es x1 pos) (tTupX t) := by
  refine ⟨fun pins s σ H Q I hq => ?_⟩
  refine wpAny_Tuple_spliced (thn (h.run pos pins s σ H _ I hq) fun us s1 ⟨xs, H1, I1, r, z, q⟩ => ⟨by rw [← r.length]; exact z, ?_⟩)
  have hf : H1 s1.heap.objs.size = none := I1.hok.fresh (Nat.le_refl _)
  refine ⟨.ref s1.heap.objs.size, upd H1 s1.heap.objs.size (.tup xs), I1.laid (t' := s1.toks) (fun b u e => Heap.get?_push_of_some _ e) (Nat.le_refl _) ?_, rfl, q _ _ (same_new hf) upd_same⟩
  exact ⟨z, us, r, ⟨_, Heap.get?_push_size _ rfl, rfl, _, rfl⟩⟩
theorem call_tupleX : CallR X (.type "tuple") (fun xs H Q => ∃ p ys, xs = [.ref p] ∧ SqL X.K H p ys ∧ ∀ q H', Same H H' → H' q = some (.tup ys) → Q (.ref q) H') := by
  intro pins s σ H xs us Q I r h
  obtain ⟨p, ys, e, hl, q⟩ := h
  exact call_tuple_of pins s σ H xs us Q I r ⟨p, ys, e, .inl ⟨hl, fun l hn => q l _ (same_new hn) upd_same⟩⟩

/-! ### xs.extend(t), t a tuple -/
set_option maxRecDepth 8000 in
theorem extend_tup (l : Addr) (items : Array Value) (n : Nat) (b : Addr) (items2 : Array Value) (n2 : Nat) (dd : Option Addr) (sl : Array (Option Value)) (hs0 : ¬(!items.isEmpty && Builtin.List.listTooLong (items.size + items2.size)) = true) (hs1 : items.size ≤ sizeLine) (hs2 : items.size + items2.size ≤ sizeLine + 1) :
    Meets (Builtin.«list.extend» ⟨[.ref l, .ref b], []⟩) (fun _ R s => s.heap.get? l = some { cls := .type "list", dict := none, data := .seq items n, slots := #[] } ∧ s.heap.get? b = some { cls := .type "tuple", dict := dd, data := .seq items2 n2, slots := sl } ∧ R (.ok (.ret Value.none)) { s with heap := s.heap.update l (Obj.mapSeq fun x => x ++ items2), toks := s.toks }) :=
  .of_wp fun prog w A R s h => by
    obtain ⟨hp, g, d, tk, os⟩ := s; obtain ⟨hl, hb, h⟩ := h; have f1 := AutoSeq1.idx_int; have f2 := AutoSeq1.sub_tuple_tuple; have f3 := AutoSeq1.sub_list_list; have f4 := AutoSeq1.sub_tuple_list; have f5 := AutoSeq1.sub_list_tuple;
    have hz' : (items ++ items2).size ≤ sizeLine + 1 := by rw [Array.size_append]; exact hs2
    wp_walk using (wpAny_updateSeq hl rfl (hz := hs1) (_hz' := hz')), wpAny_loadPart' hl, wpAny_loadPart' hb; exact ⟨_, rfl, h⟩
def rExtendX : V → List V → Hp → VK → Prop := fun x vs H Q => ∃ l b xs zs, x = .ref l ∧ vs = [.ref b] ∧ H l = some (.lst xs) ∧ H b = some (.tup zs) ∧ xs.length + zs.length ≤ sizeLine ∧ Q .non (upd H l (.lst (xs ++ zs)))
theorem mt_extendX : MtM X "list.extend" rExtendX := by
  intro pins s σ H x vs v us Q I rx rv h
  obtain ⟨l, b, xs, zs, rfl, rfl, hH, hB, hz, q⟩ := h
  cases rx
  obtain ⟨u, rfl, ru⟩ := rv.one
  cases ru
  obtain ⟨z, its, n, r, hl, e⟩ := I.lstM hH
  obtain ⟨z2, its2, r2, ⟨⟨cls, dd, data, sl⟩, ho2, hc2, n2, hd2⟩⟩ := I.hok b _ hB
  simp only at hc2 hd2
  subst hc2 hd2
  have hl2 := r2.length
  have hsz : its.toArray.size + its2.toArray.size ≤ sizeLine := by rw [List.size_toArray, List.size_toArray]; omega
  have hlong : ¬ (!its.toArray.isEmpty && Builtin.List.listTooLong (its.toArray.size + its2.toArray.size)) = true := by
    rw [notLongL hsz, Bool.and_false]
    exact Bool.false_ne_true
  refine call_meets F.slot_list_extend ⟨_, e, rfl⟩ F.entry_list_extend (F.args_list_extend_2 _ _)
    (extend_tup l its.toArray n b its2.toArray n2 dd sl hlong (by rw [List.size_toArray]; omega) (by omega)) ⟨e, ho2, ?_⟩
  refine ⟨.non, _, I.lset (its' := its ++ its2) hH e (by simp) (r.append r2) ?_, rfl, q⟩
  rw [List.length_append]
  omega

/-! ### {k: v}, k a tuple -/
theorem vv1 {x y : V} {ws : List (Value × Value)} (r : VV [(x, y)] ws) : ∃ z1 z2, ws = [(z1, z2)] ∧ RelV x z1 ∧ RelV y z2 := by
  cases r with
  | cons r rr =>
    cases rr
    exact ⟨_, _, rfl, r.1, r.2⟩
def tDisp1T (tk tv : TE) : TE := fun σ H Q => ∀ p, H p = none → tk σ (upd H p (.dT [])) fun x H1 => tv σ H1 fun y H2 => H2 p = some (.dT []) ∧ ∃ (k : List L2.Key) (b : Addr), x = .ref b ∧ H2 b = some (.tup (k.map kV)) ∧ Q (.ref p) (upd H2 p (.dT [(k, y)]))
theorem pe_disp1T {k v : Expr} {tk tv : TE} (hu : X.A.units + 1 < cLine) (hk : PE X k tk) (hv : PE X v tv) : PE X (.Dict [some k] [v] pos) (tDisp1T tk tv) := by
  refine ⟨fun pins s σ H Q I q => ?_⟩
  have hn := I.hok.fresh (Nat.le_refl s.heap.objs.size)
  have I1 := I.laid (a := s.heap.objs.size) (o := .dT []) (h' := s.heap.push { cls := .type "dict", data := .dict #[] }) (t' := s.toks) (fun _ _ q => Heap.get?_push_of_some _ q) (Nat.le_refl _) (dt_empty s.heap I.big)
  have hshape := zip_pairTrees [some k] [v] X.env pos rfl rfl
  rw [arm_eval_Dict, hshape, dictDisplay_pairs _ (fun z => by cases z) (by show 1 < 17; decide)]
  refine wpAny_bind (wpAny_standAt (wpAny_bind (wpAny_subDictH (knd := tupleKind (mixKind X.prog X.w)) (Nat.lt_of_succ_lt hu) (by show 1 ≤ 15; decide)
    (thn ((pps_cons hk hv pps_nil).run pins _ σ _ (fun ps H2 => match ps with
      | [(x, y)] => H2 s.heap.objs.size = some (.dT []) ∧ ∃ (k : List L2.Key) (b : Addr), x = .ref b ∧ H2 b = some (.tup (k.map kV)) ∧ Q (.ref s.heap.objs.size) (upd H2 s.heap.objs.size (.dT [(k, y)]))
      | _ => False) I1 (q _ hn)) fun ws s2 ⟨ps, H2, I2, rel, q2⟩ => ?_))))
  match ps, rel, q2 with
  | [], _, q2 => exact q2.elim
  | (_, _) :: _ :: _, _, q2 => exact q2.elim
  | [(x, y)], rel, q2 =>
    obtain ⟨e0, k, b, rfl, eb, q2⟩ := q2
    obtain ⟨z1, z2, rfl, r1, r2⟩ := vv1 rel
    obtain rfl : z1 = Value.ref b := r1
    obtain ⟨hz, hd, xs, rel, dd⟩ := dt_of I2.hok e0
    cases rel
    refine ⟨[(k, b, z2)], ⟨rfl, rfl, key_of I2.hok eb, trivial⟩, dd, fun h' tk dd' hs => ?_⟩
    obtain ⟨o, es, ep, hq, h2, h3, h4, _, h5⟩ := dd'
    have nb : b ≠ s.heap.objs.size := ne_of eb e0 (fun z => nomatch z)
    refine wpAny_pure ⟨.ref s.heap.objs.size, _, ?_, rfl, q2⟩
    refine d_write (H := H2) I2 (by rw [e0]; exact True.intro) hs ⟨o, hq⟩ ⟨by show 1 ≤ sizeLine; decide, hd, _, .cons ⟨rfl, ?_, r2⟩ .nil, o, es, ep, hq, h2, h3, h4, h5⟩
    rw [upd_ne nb]
    exact eb
end
end Gr
namespace Gr
open PySem L2

/-! ### a def as it stands, a def's promise, by its name -/
structure DefAt (K : PySem.W.Frag) (mg : Str → Option Value) (x : Str) (st : Stmt) (ps : List Str) : Prop where
  ex : ∃ f fd, mg x = some (.ref f) ∧ Fun K x x st f fd ∧ Binds K fd ps []
structure MethAt (K : PySem.W.Frag) (C : Addr) (x qual : Str) (st : Stmt) (ps : List Str) : Prop where
  ex : ∃ f fd, Cls K C ∧ Meth K C x f ∧ Fun K x qual st f fd ∧ Binds K fd ps []
structure InitAt (K : PySem.W.Frag) (mg : Str → Option Value) (c : Str) (C : Addr) (qual : Str) (st : Stmt) (ps : List Str) : Prop where
  ex : ∃ f fd, mg c = some (.ref C) ∧ Mk K C f ∧ Fun K "__init__" qual st f fd ∧ Binds K fd ps []
structure Good (P : Program) (w : World) (K : PySem.W.Frag) (mg : Str → Option Value) (base : Heap) (k : Nat) (x : Str) (ps : List Str) (sp : Sp) : Prop where
  ex : ∃ f fd, mg x = some (.ref f) ∧ PySem.W.keepIn K (.ref f) = true ∧ Binds K fd ps [] ∧ FnOk P w K mg base CX0 k f fd ps sp
structure GoodM (P : Program) (w : World) (K : PySem.W.Frag) (mg : Str → Option Value) (base : Heap) (k : Nat) (C : Addr) (x : Str) (ps : List Str) (sp : Sp) : Prop where
  ex : ∃ f fd, Cls K C ∧ Meth K C x f ∧ Binds K fd ps [] ∧ FnOk P w K mg base CX0 k f fd ps sp
structure GoodI (P : Program) (w : World) (K : PySem.W.Frag) (mg : Str → Option Value) (base : Heap) (k : Nat) (c : Str) (C : Addr) (ps : List Str) (sp : Sp) : Prop where
  ex : ∃ f fd, mg c = some (.ref C) ∧ Mk K C f ∧ Binds K fd ps [] ∧ FnOk P w K mg base CX0 k f fd ps sp
section
variable {P : Program} {w : World} {K : PySem.W.Frag} {mg : Str → Option Value} {base : Heap}
/-- what a def's body is asked -/
def Body (P : Program) (w : World) (K : PySem.W.Frag) (mg : Str → Option Value) (base : Heap) (qual : Str) (st : Stmt) (N : List Str) (k : Nat) (sp : Sp) : Prop :=
  ∀ (f : Addr) (cdv : Value) (A : Around) (outer : List Env) (s : Shared) (H : Hp) (vs : List V) (Q : VK) (E : XK), Room k (A.deeper (PyProof.Rows.envOfC qual (defScope st) s.heap.objs.size f cdv)) → sp vs H Q E →
      ∃ t, PSs (cxOf CX0 P w K mg base N qual (defScope st) f cdv A outer s H E).nox (defBody st) t ∧ t { nx := fun _ H' => Q .non H', rt := Q } (start N vs) H
theorem DefAt.good {x : Str} {st : Stmt} {N ps : List Str} {k : Nat} {sp : Sp} (D : DefAt K mg x st ps) (S : FnScope N ps (defScope st)) (len : ∀ vs H Q E, sp vs H Q E → vs.length = ps.length) (b : Body P w K mg base x st N k sp) : Good P w K mg base (k + 1) x ps sp := by
  obtain ⟨f, fd, hm, F, bb⟩ := D.ex
  exact ⟨f, fd, hm, F.kp, bb, F.ok S len fun cdv A outer s H vs Q E hr h => b f cdv A outer s H vs Q E hr h⟩
theorem MethAt.good {C : Addr} {x qual : Str} {st : Stmt} {N ps : List Str} {k : Nat} {sp : Sp} (D : MethAt K C x qual st ps) (S : FnScope N ps (defScope st)) (len : ∀ vs H Q E, sp vs H Q E → vs.length = ps.length) (b : Body P w K mg base qual st N k sp) : GoodM P w K mg base (k + 1) C x ps sp := by
  obtain ⟨f, fd, hc, hm, F, bb⟩ := D.ex
  exact ⟨f, fd, hc, hm, bb, F.ok S len fun cdv A outer s H vs Q E hr h => b f cdv A outer s H vs Q E hr h⟩
theorem InitAt.good {c : Str} {C : Addr} {qual : Str} {st : Stmt} {N ps : List Str} {k : Nat} {sp : Sp} (D : InitAt K mg c C qual st ps) (S : FnScope N ps (defScope st)) (len : ∀ vs H Q E, sp vs H Q E → vs.length = ps.length) (b : Body P w K mg base qual st N k sp) : GoodI P w K mg base (k + 1) c C ps sp := by
  obtain ⟨f, fd, hc, hm, F, bb⟩ := D.ex
  exact ⟨f, fd, hc, hm, bb, F.ok S len fun cdv A outer s H vs Q E hr h => b f cdv A outer s H vs Q E hr h⟩
end
section
variable {X : Cx} {k : Nat} {C : Addr} {ps : List Str} {sp : Sp} {x m : Str} {p pos apos : Pos} {e o : Expr} {es : List Expr} {ta : TE} {t : TA}
theorem pe_callG (g : Good X.prog X.w X.K X.mg X.base k x ps sp) (hr : Room k X.A) (hg : Gl X x) (ha : PA X (e :: es) t) (hdb : (x == ("__debug__" : Str)) = false := by decide)
    (he : starEach (e :: es) X.env = (false, eval e X.env) :: starEach es X.env := by rfl) (hpl : (backTo pos (starEach es X.env)).any (·.1) = false := by rfl) : PE X (.Call (.Name x p) (e :: es) [] pos) (tCall sp [] E0 t) := by
  obtain ⟨f, fd, hm, hk, b, F⟩ := g.ex
  exact pe_call F hr hg hm hk b .nil pass0 ha hdb he hpl
theorem pe_makeG (g : GoodI X.prog X.w X.K X.mg X.base k x C ps sp) (hr : Room (k + 1) X.A) (hg : Gl X x) (ha : PA X (e :: es) t) (hdb : (x == ("__debug__" : Str)) = false := by decide)
    (he : starEach (e :: es) X.env = (false, eval e X.env) :: starEach es X.env := by rfl) (hpl : (backTo pos (starEach es X.env)).any (·.1) = false := by rfl) : PE X (.Call (.Name x p) (e :: es) [] pos) (tMake C sp [] E0 t) := by
  obtain ⟨f, fd, hm, M, b, F⟩ := g.ex
  exact pe_make M F hr hg hm b .nil pass0 ha hdb he hpl
theorem pe_methG {pl : Sem Bool} (g : GoodM X.prog X.w X.K X.mg X.base k C m ps sp) (hr : Room k X.A) (ho : PE X o ta) (ha : PA X (e :: es) t)
    (hst : starEach (e :: es) X.env = (false, eval e X.env) :: starEach es X.env := by rfl) (hpl : (backTo pos (starEach es X.env)).any (·.1) = false := by rfl)
    (ht : eval (.Call (.Attribute o m apos) (e :: es) [] pos) X.env = (do
      let ov ← eval o X.env
      standAt apos.atName
      let (f, first) ← holding [ov] (getMethod ov m pl)
      callWith pos f first (backTo pos (starEach (e :: es) X.env)) (backToKw pos (keywordEach [] X.env))) := by rfl) : PE X (.Call (.Attribute o m apos) (e :: es) [] pos) (tMeth C m sp [] E0 ta t) := by
  obtain ⟨f, fd, c, hm, b, F⟩ := g.ex
  exact pe_meth (pl := pl) ho c hm F hr b .nil pass0 ha hst hpl ht
theorem pe_methG0 {pl : Sem Bool} (g : GoodM X.prog X.w X.K X.mg X.base k C m ps sp) (hr : Room k X.A) (ho : PE X o ta)
    (ht : eval (.Call (.Attribute o m apos) [] [] pos) X.env = (do
      let ov ← eval o X.env
      standAt apos.atName
      let (f, first) ← holding [ov] (getMethod ov m pl)
      callWith pos f first (backTo pos (starEach [] X.env)) (backToKw pos (keywordEach [] X.env))) := by rfl) : PE X (.Call (.Attribute o m apos) [] [] pos) (tMeth C m sp [] E0 ta tNil) := by
  obtain ⟨f, fd, c, hm, b, F⟩ := g.ex
  exact pe_meth0 (pl := pl) ho c hm F hr b .nil pass0 ht
end

/-! ### data in the heap: words, lists of words, houses -/
/-- the tuples stay -/
def Tx (H H' : Hp) : Prop := ∀ b xs, H b = some (.tup xs) → H' b = some (.tup xs)
theorem Tx.of {H H' : Hp} (e : Same H H') : Tx H H' := fun b xs h => e b _ h
theorem Tx.refl (H : Hp) : Tx H H := fun _ _ h => h
theorem Tx.trans {H H1 H2 : Hp} (a : Tx H H1) (b : Tx H1 H2) : Tx H H2 := fun c xs h => b c xs (a c xs h)
abbrev Wd := List Nat
abbrev nv (n : Nat) : V := .int (n : Int)
def tw (w : Wd) : List V := w.map nv
def IsW (H : Hp) (v : V) (w : Wd) : Prop := ∃ a, v = .ref a ∧ H a = some (.tup (tw w))
theorem IsW.tx {H H' : Hp} {v : V} {w : Wd} (h : IsW H v w) (e : Tx H H') : IsW H' v w := by
  obtain ⟨a, rfl, ha⟩ := h
  exact ⟨a, rfl, e _ _ ha⟩
theorem IsW.mono {H H' : Hp} {v : V} {w : Wd} (h : IsW H v w) (e : Same H H') : IsW H' v w := h.tx (.of e)
theorem Paired.tx {α : Type} {F : Hp → V → α → Prop} {H H' : Hp} (hF : ∀ v w, F H v w → F H' v w) {vs : List V} {ws : List α} (h : Paired (F H) vs ws) : Paired (F H') vs ws := Paired.mapP h hF
/-- a tuple of words, a list of words -/
def IsT2 (H : Hp) (v : V) (ws : List Wd) : Prop := ∃ a vs, v = .ref a ∧ H a = some (.tup vs) ∧ Paired (IsW H) vs ws
theorem IsT2.tx {H H' : Hp} {v : V} {ws : List Wd} (h : IsT2 H v ws) (e : Tx H H') : IsT2 H' v ws := by
  obtain ⟨a, vs, rfl, ha, p⟩ := h
  exact ⟨a, vs, rfl, e _ _ ha, Paired.mapP p fun _ _ q => q.tx e⟩
theorem IsT2.mono {H H' : Hp} {v : V} {ws : List Wd} (h : IsT2 H v ws) (e : Same H H') : IsT2 H' v ws := h.tx (.of e)
def IsL2 (H : Hp) (a : Addr) (ws : List Wd) : Prop := ∃ vs, H a = some (.lst vs) ∧ Paired (IsW H) vs ws
theorem IsL2.mono {H H' : Hp} {a : Addr} {ws : List Wd} (h : IsL2 H a ws) (e : Same H H') : IsL2 H' a ws := by
  obtain ⟨vs, ha, p⟩ := h
  exact ⟨vs, e _ _ ha, Paired.mapP p fun _ _ q => q.mono e⟩
theorem IsL2.tx {H H' : Hp} {a : Addr} {ws : List Wd} (h : IsL2 H a ws) (e : Tx H H') (ea : H' a = H a) : IsL2 H' a ws := by
  obtain ⟨vs, ha, p⟩ := h
  exact ⟨vs, ea.trans ha, Paired.mapP p fun _ _ q => q.tx e⟩
structure Hs where
  L : Nat
  marks : Wd
  ways : List Wd
  deriving DecidableEq
def IsH (H : Hp) (v : V) (h : Hs) : Prop := ∃ a mv yv, v = .ref a ∧ H a = some (.tup [nv h.L, mv, yv]) ∧ IsW H mv h.marks ∧ IsT2 H yv h.ways
theorem IsH.tx {H H' : Hp} {v : V} {h : Hs} (q : IsH H v h) (e : Tx H H') : IsH H' v h := by
  obtain ⟨a, mv, yv, rfl, ha, p, r⟩ := q
  exact ⟨a, mv, yv, rfl, e _ _ ha, p.tx e, r.tx e⟩
theorem IsH.mono {H H' : Hp} {v : V} {h : Hs} (q : IsH H v h) (e : Same H H') : IsH H' v h := q.tx (.of e)

/-! ### what is read of them -/
section
variable {K : PySem.W.Frag} {H : Hp} {v : V} {Q : VK}
theorem tw_get {w : Wd} {i x : Nat} (h : w[i]? = some x) : (tw w)[i]? = some (nv x) := by
  unfold tw
  rw [List.getElem?_map, h]
  rfl
theorem tw_len (w : Wd) : (tw w).length = w.length := List.length_map _
theorem rd_w {w : Wd} {i x : Nat} (h : IsW H v w) (e : w[i]? = some x) (k : Q (nv x) H) : rIxT K v (nv i) H Q := by
  obtain ⟨a, rfl, ha⟩ := h
  exact ⟨a, _, _, _, rfl, rfl, SqT.of ha, atI_nat (tw_get e), k⟩
/-- a subscript by a written number -/
def rIxTC (K : PySem.W.Frag) (i : Int) : V → Hp → VK → Prop := fun x H Q => rIxT K x (.int i) H Q
def rIxLC (K : PySem.W.Frag) (i : Int) : V → Hp → VK → Prop := fun x H Q => rIxL K x (.int i) H Q
theorem pe_ixTC {X : Cx} {a : Expr} {ta : TE} {i : Int} {k p pos} (ha : PE X a ta) : PE X (.Subscript a (.Constant (.int i) k p) pos) (tUn (rIxTC X.K i) ta) := pe_ix ix_tup ha pe_int (fun _ _ => rfl)
theorem pe_ixLC {X : Cx} {a : Expr} {ta : TE} {i : Int} {k p pos} (ha : PE X a ta) : PE X (.Subscript a (.Constant (.int i) k p) pos) (tUn (rIxLC X.K i) ta) := pe_ix ix_list ha pe_int (fun _ _ => rfl)
theorem rd_wC {w : Wd} {i x : Nat} (h : IsW H v w) (e : w[i]? = some x) (k : Q (nv x) H) : rIxTC K i v H Q := rd_w h e k
theorem rd_tC {p : Addr} {xs : List V} {i : Nat} {x : V} (h : H p = some (.tup xs)) (e : xs[i]? = some x) (k : Q x H) : rIxTC K i (.ref p) H Q := ⟨p, _, _, _, rfl, rfl, SqT.of h, atI_nat e, k⟩
theorem rd_lC {p : Addr} {xs : List V} {i : Nat} {x : V} (h : H p = some (.lst xs)) (e : xs[i]? = some x) (k : Q x H) : rIxLC K i (.ref p) H Q := ⟨p, _, _, _, rfl, rfl, SqL.of h, atI_nat e, k⟩
theorem rd_t {p : Addr} {xs : List V} {i : Nat} {x : V} (h : H p = some (.tup xs)) (e : xs[i]? = some x) (k : Q x H) : rIxT K (.ref p) (nv i) H Q := ⟨p, _, _, _, rfl, rfl, SqT.of h, atI_nat e, k⟩
theorem rd_h0 {h : Hs} (q : IsH H v h) (k : Q (nv h.L) H) : rIxTC K 0 v H Q := by
  obtain ⟨a, mv, yv, rfl, ha, p, r⟩ := q
  exact ⟨a, _, _, _, rfl, rfl, SqT.of ha, atI_nat (j := 0) rfl, k⟩
theorem rd_h1 {h : Hs} (q : IsH H v h) (k : ∀ mv, IsW H mv h.marks → Q mv H) : rIxTC K 1 v H Q := by
  obtain ⟨a, mv, yv, rfl, ha, p, r⟩ := q
  exact ⟨a, _, _, _, rfl, rfl, SqT.of ha, atI_nat (j := 1) rfl, k _ p⟩
theorem rd_h2 {h : Hs} (q : IsH H v h) (k : ∀ yv, IsT2 H yv h.ways → Q yv H) : rIxTC K 2 v H Q := by
  obtain ⟨a, mv, yv, rfl, ha, p, r⟩ := q
  exact ⟨a, _, _, _, rfl, rfl, SqT.of ha, atI_nat (j := 2) rfl, k _ r⟩
theorem pair_get {α : Type} {F : V → α → Prop} : ∀ {vs : List V} {ws : List α} {i : Nat} {w : α}, Paired F vs ws → ws[i]? = some w → ∃ v, vs[i]? = some v ∧ F v w
  | _, _, _, _, .nil, e => by simp at e
  | _, _, 0, _, .cons r _, e => by
    simp at e
    subst e
    exact ⟨_, rfl, r⟩
  | _, _, i + 1, _, .cons _ t, e => by
    obtain ⟨v, h1, h2⟩ := pair_get (i := i) t (by simpa using e)
    exact ⟨v, by simpa using h1, h2⟩
theorem pair_get' {α : Type} {F : V → α → Prop} : ∀ {vs : List V} {ws : List α} {i : Nat} {v : V}, Paired F vs ws → vs[i]? = some v → ∃ w, ws[i]? = some w ∧ F v w
  | _, _, _, _, .nil, e => by simp at e
  | _, _, 0, _, .cons r _, e => by
    simp at e
    subst e
    exact ⟨_, rfl, r⟩
  | _, _, i + 1, _, .cons _ t, e => by
    obtain ⟨v, h1, h2⟩ := pair_get' (i := i) t (by simpa using e)
    exact ⟨v, by simpa using h1, h2⟩
theorem pair_snoc {α : Type} {F : V → α → Prop} : ∀ {vs : List V} {ws : List α} {v : V} {w : α}, Paired F vs ws → F v w → Paired F (vs ++ [v]) (ws ++ [w])
  | _, _, _, _, .nil, h => .cons h .nil
  | _, _, _, _, .cons r t, h => .cons r (pair_snoc t h)
theorem rd_t2 {ws : List Wd} {i : Nat} {w : Wd} (h : IsT2 H v ws) (e : ws[i]? = some w) (k : ∀ x, IsW H x w → Q x H) : rIxT K v (nv i) H Q := by
  obtain ⟨a, vs, rfl, ha, p⟩ := h
  obtain ⟨x, hx, q⟩ := pair_get p e
  exact ⟨a, _, _, _, rfl, rfl, SqT.of ha, atI_nat hx, k x q⟩
theorem rd_l {a : Addr} {xs : List V} {i : Nat} {x : V} (h : H a = some (.lst xs)) (e : xs[i]? = some x) (k : Q x H) : rIxL K (.ref a) (nv i) H Q := ⟨a, _, _, _, rfl, rfl, SqL.of h, atI_nat e, k⟩
theorem rd_last {a : Addr} {xs : List V} {x : V} (h : H a = some (.lst (xs ++ [x]))) (k : Q x H) : rIxL K (.ref a) (.int (-1)) H Q := ⟨a, _, _, _, rfl, rfl, SqL.of h, atI_last _ _, k⟩
theorem rd_l2 {a : Addr} {ws : List Wd} {i : Nat} {w : Wd} (h : IsL2 H a ws) (e : ws[i]? = some w) (k : ∀ x, IsW H x w → Q x H) : rIxL K (.ref a) (nv i) H Q := by
  obtain ⟨vs, ha, p⟩ := h
  obtain ⟨x, hx, q⟩ := pair_get p e
  exact ⟨a, _, _, _, rfl, rfl, SqL.of ha, atI_nat hx, k x q⟩
/-- w + u of words -/
theorem rd_cat {x y : V} {w u : Wd} (h : IsW H x w) (h' : IsW H y u) (l : w.length + u.length ≤ 100000) (k : ∀ v H', Same H H' → IsW H' v (w ++ u) → Q v H') : rCatX x y H Q := by
  obtain ⟨a, rfl, ha⟩ := h
  obtain ⟨b, rfl, hb⟩ := h'
  refine ⟨a, b, _, _, rfl, rfl, ha, hb, ?_, fun p H' e hp => k _ _ e ⟨p, rfl, ?_⟩⟩
  · rw [tw_len, tw_len]
    exact Nat.le_trans l (by decide)
  · unfold tw
    rw [List.map_append]
    exact hp
/-- a field -/
def rFld (K : PySem.W.Frag) (f : Str) : V → Hp → VK → Prop := fun x H1 Q => ∃ a C dx fs v, x = .ref a ∧ H1 a = some (.ins C dx fs) ∧ Cls K C ∧ NoAttr K C f ∧ fs.lookup f = some v ∧ Q v H1
theorem pe_fldX {X : Cx} {e : Expr} {ta : TE} {f : Str} {pos : Pos} (he : PE X e ta) (hb : attributeBase e f X.env (eval e X.env) = eval e X.env) : PE X (.Attribute e f pos) (tUn (rFld X.K f) ta) := pe_fld he hb
theorem rd_fld {p C dx : Addr} {fs : List (Str × V)} {f : Str} {u : V} (hp : H p = some (.ins C dx fs)) (c : Cls K C) (n : NoAttr K C f) (l : fs.lookup f = some u) (k : Q u H) : rFld K f (.ref p) H Q := ⟨p, C, dx, fs, u, rfl, hp, c, n, l, k⟩
end

/-! ### attributes by their places -/
def ixOf (ns : List Str) (f : Str) : Option Nat := ns.findIdx? fun n => decide (n = f)
theorem zip_lookup : ∀ {ns : List Str} {vs : List V} {f : Str} {i : Nat} {v : V}, ixOf ns f = some i → vs[i]? = some v → ns.length = vs.length → (ns.zip vs).lookup f = some v
  | [], _, _, _, _, h, _, _ => by simp [ixOf] at h
  | n :: ns, [], _, _, _, _, _, l => by simp at l
  | n :: ns, u :: vs, f, i, v, h, hv, l => by
    rw [List.zip_cons_cons, List.lookup_cons]
    by_cases e : n = f
    · subst e
      rw [ixOf, List.findIdx?_cons, decide_eq_true rfl] at h
      simp at h
      subst h
      simp at hv
      subst hv
      simp
    · rw [ixOf, List.findIdx?_cons, decide_eq_false e] at h
      simp at h
      obtain ⟨j, hj, rfl⟩ := h
      have e' : (f == n) = false := by
        rw [beq_eq_false_iff_ne]
        exact fun q => e q.symm
      rw [e']
      exact zip_lookup hj (by simpa using hv) (by simpa using l)
theorem zip_lookup_none {ns : List Str} {vs : List V} {f : Str} (h : f ∉ ns) : (ns.zip vs).lookup f = none := by
  induction ns generalizing vs with
  | nil => rfl
  | cons n ns ih =>
    cases vs with
    | nil => rfl
    | cons u vs =>
      rw [List.zip_cons_cons, List.lookup_cons]
      have e' : (f == n) = false := by
        rw [beq_eq_false_iff_ne]
        exact fun q => h (by simp [q])
      rw [e']
      exact ih fun q => h (by simp [q])
theorem putF_zip : ∀ {ns : List Str} {vs : List V} {f : Str} {i : Nat} {v : V}, ixOf ns f = some i → ns.length = vs.length → putF f v (ns.zip vs) = ns.zip (vs.set i v)
  | [], _, _, _, _, h, _ => by simp [ixOf] at h
  | n :: ns, [], _, _, _, _, l => by simp at l
  | n :: ns, u :: vs, f, i, v, h, l => by
    rw [List.zip_cons_cons]
    unfold putF
    by_cases e : n = f
    · rw [ixOf, List.findIdx?_cons, decide_eq_true e] at h
      simp at h
      subst h
      rw [if_pos e]
      rfl
    · rw [ixOf, List.findIdx?_cons, decide_eq_false e] at h
      simp at h
      obtain ⟨j, hj, rfl⟩ := h
      rw [if_neg e, putF_zip hj (by simpa using l)]
      rfl
theorem putF_snoc : ∀ {ns : List Str} {vs : List V} {f : Str} {v : V}, f ∉ ns → ns.length = vs.length → putF f v (ns.zip vs) = (ns ++ [f]).zip (vs ++ [v])
  | [], [], f, v, _, _ => rfl
  | [], _ :: _, _, _, _, l => by simp at l
  | n :: ns, [], _, _, _, l => by simp at l
  | n :: ns, u :: vs, f, v, h, l => by
    rw [List.zip_cons_cons]
    unfold putF
    rw [if_neg (fun e => h (by simp [e])), putF_snoc (fun q => h (by simp [q])) (by simpa using l)]
    rfl

/-! ### comprehensions without a test -/
theorem lc_listX {K : PySem.W.Frag} {a : Addr} {xs : List V} {g : TG} {te : TE} {vs : List Nat} {σ : L2.St} {H1 : Hp} {D : Addr} {Qd : Hp → Prop} (Pv : Nat → Hp → Prop) (h0 : Pv 0 (upd H1 D (.lst []))) (hl : ∀ i H, i ≤ xs.length → Pv i H → SqL K H a xs)
    (hs : ∀ i x H, xs[i]? = some x → Pv i H → g x (wipe σ vs) H fun σ2 H2 => wipe σ2 vs = wipe σ vs ∧ te σ2 H2 fun y H4 => ∃ acc, H4 D = some (.lst acc) ∧ acc.length < sizeLine ∧ Pv (i + 1) (upd H4 D (.lst (acc ++ [y])))) (hd : ∀ H, Pv xs.length H → Qd H) :
    ∃ W : Nat → Nat → Hp → Prop, (∃ m, W 0 m (upd H1 D (.lst []))) ∧ ∀ i m H, W i m H →
      ((Itl K a).stop i H ∧ Qd H) ∨ ((Itl K a).go i H ∧ ∃ Nx : Hp → Prop, (∀ H', Nx H' → ∃ m', m' < m ∧ W (i + 1) m' H') ∧ ∀ x H', (Itl K a).yld i H x H' → g x (wipe σ vs) H' fun σ2 H2 => wipe σ2 vs = wipe σ vs ∧ tYes σ2 H2 fun b H3 =>
        if b = true then te σ2 H3 fun y H4 => ∃ acc, H4 D = some (.lst acc) ∧ acc.length < sizeLine ∧ Nx (upd H4 D (.lst (acc ++ [y]))) else Nx H3) := by
  refine ⟨fun i m H => m = xs.length - i ∧ i ≤ xs.length ∧ Pv i H, ⟨xs.length, by simp, Nat.zero_le _, h0⟩, ?_⟩
  rintro i m H ⟨rfl, hi, p⟩
  have q := hl i H hi p
  by_cases hlt : i < xs.length
  · refine .inr ⟨⟨xs, xs[i], q, by simp [hlt]⟩, Pv (i + 1), fun H' p' => ⟨xs.length - (i + 1), by omega, rfl, hlt, p'⟩, fun x H' y => ?_⟩
    obtain ⟨e, y⟩ := y
    subst e
    exact hs i x _ (y xs q) p
  · have e : i = xs.length := by omega
    subst e
    exact .inl ⟨⟨xs, q, Nat.le_refl _⟩, hd H p⟩
end Gr
namespace Gr
open PySem L2
def top (i : Nat) : Stmt := PySem.Challenge.pw_guessroom_k87_whole_no_other_works.main.body.getD i (.Pass ⟨0, 0, 0, 0⟩)
abbrev s_is_word : Stmt := top 9
theorem sc_is_word : FnScope ["letters", "word", "letter"] ["letters", "word"] (defScope s_is_word) := ⟨rfl, rfl, rfl, by decide +kernel, rfl, by decide +kernel, by decide +kernel⟩
abbrev s_look_at : Stmt := top 12
theorem sc_look_at : FnScope ["letters", "word", "mark"] ["letters", "word", "mark"] (defScope s_look_at) := ⟨rfl, rfl, rfl, by decide +kernel, rfl, by decide +kernel, by decide +kernel⟩
abbrev s_Book_init : Stmt := inClass (top 13) 0
theorem sc_Book_init : FnScope ["self", "letters"] ["self", "letters"] (defScope s_Book_init) := ⟨rfl, rfl, rfl, by decide +kernel, rfl, by decide +kernel, by decide +kernel⟩
abbrev s_Book_put : Stmt := inClass (top 13) 1
theorem sc_Book_put : FnScope ["self", "word", "mark", "kept"] ["self", "word", "mark"] (defScope s_Book_put) := ⟨rfl, rfl, rfl, by decide +kernel, rfl, by decide +kernel, by decide +kernel⟩
abbrev s_Book_told : Stmt := inClass (top 13) 2
theorem sc_Book_told : FnScope ["self", "word"] ["self", "word"] (defScope s_Book_told) := ⟨rfl, rfl, rfl, by decide +kernel, rfl, by decide +kernel, by decide +kernel⟩
abbrev s_Book_heard : Stmt := inClass (top 13) 3
theorem sc_Book_heard : FnScope ["self", "word", "mark"] ["self"] (defScope s_Book_heard) := ⟨rfl, rfl, rfl, by decide +kernel, rfl, by decide +kernel, by decide +kernel⟩
abbrev s_trail : Stmt := top 15
theorem sc_trail : FnScope ["house", "word", "rooms", "letter"] ["house", "word"] (defScope s_trail) := ⟨rfl, rfl, rfl, by decide +kernel, rfl, by decide +kernel, by decide +kernel⟩
abbrev s_room_behind : Stmt := top 16
theorem sc_room_behind : FnScope ["house", "word"] ["house", "word"] (defScope s_room_behind) := ⟨rfl, rfl, rfl, by decide +kernel, rfl, by decide +kernel, by decide +kernel⟩
abbrev s_mark_behind : Stmt := top 17
theorem sc_mark_behind : FnScope ["house", "word"] ["house", "word"] (defScope s_mark_behind) := ⟨rfl, rfl, rfl, by decide +kernel, rfl, by decide +kernel, by decide +kernel⟩
abbrev s_rows_of : Stmt := top 19
theorem sc_rows_of : FnScope ["letters", "access", "rows", "word", "letter", "longer"] ["letters", "access"] (defScope s_rows_of) := ⟨rfl, rfl, rfl, by decide +kernel, rfl, by decide +kernel, by decide +kernel⟩
abbrev s_gap : Stmt := top 20
theorem sc_gap : FnScope ["book", "letters", "access", "ends", "row", "end"] ["book", "letters", "access", "ends"] (defScope s_gap) := ⟨rfl, rfl, rfl, by decide +kernel, rfl, by decide +kernel, by decide +kernel⟩
abbrev s_marks_of : Stmt := top 21
theorem sc_marks_of : FnScope ["book", "word", "ends", "end"] ["book", "word", "ends"] (defScope s_marks_of) := ⟨rfl, rfl, rfl, by decide +kernel, rfl, by decide +kernel, by decide +kernel⟩
abbrev s_place_like : Stmt := top 22
theorem sc_place_like : FnScope ["book", "access", "ends", "marks", "k"] ["book", "access", "ends", "marks"] (defScope s_place_like) := ⟨rfl, rfl, rfl, by decide +kernel, rfl, by decide +kernel, by decide +kernel⟩
abbrev s_stranger : Stmt := top 23
theorem sc_stranger : FnScope ["book", "letters", "access", "ends", "row"] ["book", "letters", "access", "ends"] (defScope s_stranger) := ⟨rfl, rfl, rfl, by decide +kernel, rfl, by decide +kernel, by decide +kernel⟩
abbrev s_ways_by : Stmt := top 24
theorem sc_ways_by : FnScope ["book", "letters", "access", "ends", "ways", "word", "row", "letter", "marks"] ["book", "letters", "access", "ends"] (defScope s_ways_by) := ⟨rfl, rfl, rfl, by decide +kernel, rfl, by decide +kernel, by decide +kernel⟩
abbrev s_guess_of : Stmt := top 25
theorem sc_guess_of : FnScope ["book", "letters", "access", "ends", "marks", "word"] ["book", "letters", "access", "ends"] (defScope s_guess_of) := ⟨rfl, rfl, rfl, by decide +kernel, rfl, by decide +kernel, by decide +kernel⟩
abbrev s_first_wrong : Stmt := top 26
theorem sc_first_wrong : FnScope ["book", "house", "word", "mark"] ["book", "house"] (defScope s_first_wrong) := ⟨rfl, rfl, rfl, by decide +kernel, rfl, by decide +kernel, by decide +kernel⟩
abbrev s_Asker_init : Stmt := inClass (top 28) 0
theorem sc_Asker_init : FnScope ["self", "letters", "most"] ["self", "letters", "most"] (defScope s_Asker_init) := ⟨rfl, rfl, rfl, by decide +kernel, rfl, by decide +kernel, by decide +kernel⟩
abbrev s_Asker_wants : Stmt := inClass (top 28) 1
theorem sc_Asker_wants : FnScope ["self"] ["self"] (defScope s_Asker_wants) := ⟨rfl, rfl, rfl, by decide +kernel, rfl, by decide +kernel, by decide +kernel⟩
abbrev s_Asker_hear : Stmt := inClass (top 28) 5
theorem sc_Asker_hear : FnScope ["self", "mark"] ["self", "mark"] (defScope s_Asker_hear) := ⟨rfl, rfl, rfl, by decide +kernel, rfl, by decide +kernel, by decide +kernel⟩
abbrev s_Asker_settle : Stmt := inClass (top 28) 8
theorem sc_Asker_settle : FnScope ["self"] ["self"] (defScope s_Asker_settle) := ⟨rfl, rfl, rfl, by decide +kernel, rfl, by decide +kernel, by decide +kernel⟩
abbrev s_Asker_one_step : Stmt := inClass (top 28) 9
theorem sc_Asker_one_step : FnScope ["self", "word", "house"] ["self"] (defScope s_Asker_one_step) := ⟨rfl, rfl, rfl, by decide +kernel, rfl, by decide +kernel, by decide +kernel⟩
abbrev s_Asker_take_in : Stmt := inClass (top 28) 10
theorem sc_Asker_take_in : FnScope ["self", "word"] ["self", "word"] (defScope s_Asker_take_in) := ⟨rfl, rfl, rfl, by decide +kernel, rfl, by decide +kernel, by decide +kernel⟩
abbrev s_nested : Stmt := top 30
theorem sc_nested : FnScope ["plain", "helpers", "signs", "deep", "sign"] ["plain", "helpers", "signs"] (defScope s_nested) := ⟨rfl, rfl, rfl, by decide +kernel, rfl, by decide +kernel, by decide +kernel⟩
abbrev s_parts : Stmt := top 31
theorem sc_parts : FnScope ["plain", "helpers", "signs", "found", "called", "words", "sign"] ["plain", "helpers", "signs"] (defScope s_parts) := ⟨rfl, rfl, rfl, by decide +kernel, rfl, by decide +kernel, by decide +kernel⟩
abbrev s_spread : Stmt := top 32
theorem sc_spread : FnScope ["plain", "helpers", "local", "rows", "signs", "sign"] ["plain", "helpers", "local", "rows"] (defScope s_spread) := ⟨rfl, rfl, rfl, by decide +kernel, rfl, by decide +kernel, by decide +kernel⟩
abbrev s_takes : Stmt := top 34
theorem sc_takes : FnScope ["works", "signs", "plain", "houses", "helper", "local"] ["works", "signs"] (defScope s_takes) := ⟨rfl, rfl, rfl, by decide +kernel, rfl, by decide +kernel, by decide +kernel⟩
abbrev s_row_with : Stmt := top 36
theorem sc_row_with : FnScope ["plain", "helpers", "j", "use", "within"] ["plain", "helpers", "j", "use", "within"] (defScope s_row_with) := ⟨rfl, rfl, rfl, by decide +kernel, rfl, by decide +kernel, by decide +kernel⟩
abbrev s_use_row : Stmt := top 37
theorem sc_use_row : FnScope ["plain", "helpers", "j", "use", "local", "rows", "one"] ["plain", "helpers", "j", "use", "local"] (defScope s_use_row) := ⟨rfl, rfl, rfl, by decide +kernel, rfl, by decide +kernel, by decide +kernel⟩
abbrev s_CallAsker_init : Stmt := inClass (top 38) 0
theorem sc_CallAsker_init : FnScope ["self", "plain", "helpers", "most", "uses", "j"] ["self", "plain", "helpers", "most", "uses"] (defScope s_CallAsker_init) := ⟨rfl, rfl, rfl, by decide +kernel, rfl, by decide +kernel, by decide +kernel⟩
abbrev s_CallAsker_wants : Stmt := inClass (top 38) 1
theorem sc_CallAsker_wants : FnScope ["self"] ["self"] (defScope s_CallAsker_wants) := ⟨rfl, rfl, rfl, by decide +kernel, rfl, by decide +kernel, by decide +kernel⟩
abbrev s_CallAsker_heard : Stmt := inClass (top 38) 2
theorem sc_CallAsker_heard : FnScope ["self", "signs", "taken"] ["self"] (defScope s_CallAsker_heard) := ⟨rfl, rfl, rfl, by decide +kernel, rfl, by decide +kernel, by decide +kernel⟩
abbrev s_CallAsker_hear : Stmt := inClass (top 38) 3
theorem sc_CallAsker_hear : FnScope ["self", "taken"] ["self", "taken"] (defScope s_CallAsker_hear) := ⟨rfl, rfl, rfl, by decide +kernel, rfl, by decide +kernel, by decide +kernel⟩
abbrev s_CallAsker_agree : Stmt := inClass (top 38) 4
theorem sc_CallAsker_agree : FnScope ["self"] ["self"] (defScope s_CallAsker_agree) := ⟨rfl, rfl, rfl, by decide +kernel, rfl, by decide +kernel, by decide +kernel⟩
abbrev s_CallAsker_settle : Stmt := inClass (top 38) 6
theorem sc_CallAsker_settle : FnScope ["self"] ["self"] (defScope s_CallAsker_settle) := ⟨rfl, rfl, rfl, by decide +kernel, rfl, by decide +kernel, by decide +kernel⟩
abbrev s_CallAsker_one_step : Stmt := inClass (top 38) 7
theorem sc_CallAsker_one_step : FnScope ["self", "j", "want"] ["self"] (defScope s_CallAsker_one_step) := ⟨rfl, rfl, rfl, by decide +kernel, rfl, by decide +kernel, by decide +kernel⟩
abbrev s_CallAsker_use_step : Stmt := inClass (top 38) 8
theorem sc_CallAsker_use_step : FnScope ["self", "j", "row"] ["self"] (defScope s_CallAsker_use_step) := ⟨rfl, rfl, rfl, by decide +kernel, rfl, by decide +kernel, by decide +kernel⟩
abbrev s_CallAsker_pending_step : Stmt := inClass (top 38) 9
theorem sc_CallAsker_pending_step : FnScope ["self", "j", "local", "row"] ["self"] (defScope s_CallAsker_pending_step) := ⟨rfl, rfl, rfl, by decide +kernel, rfl, by decide +kernel, by decide +kernel⟩
abbrev s_CallAsker_local_step : Stmt := inClass (top 38) 10
theorem sc_CallAsker_local_step : FnScope ["self", "j", "local", "row"] ["self", "j", "local"] (defScope s_CallAsker_local_step) := ⟨rfl, rfl, rfl, by decide +kernel, rfl, by decide +kernel, by decide +kernel⟩
abbrev s_CallAsker_show_step : Stmt := inClass (top 38) 11
theorem sc_CallAsker_show_step : FnScope ["self", "works", "signs", "taken", "asker"] ["self"] (defScope s_CallAsker_show_step) := ⟨rfl, rfl, rfl, by decide +kernel, rfl, by decide +kernel, by decide +kernel⟩
abbrev s_law_cell_at : Stmt := top 40
theorem sc_law_cell_at : FnScope ["script", "k"] ["script", "k"] (defScope s_law_cell_at) := ⟨rfl, rfl, rfl, by decide +kernel, rfl, by decide +kernel, by decide +kernel⟩
abbrev s_law_houses_by : Stmt := top 41
theorem sc_law_houses_by : FnScope ["script", "head", "helpers", "letters", "k", "slots", "cell", "houses", "j", "mine", "rooms", "marks", "ways", "room", "row", "letter", "slot"] ["script"] (defScope s_law_houses_by) := ⟨rfl, rfl, rfl, by decide +kernel, rfl, by decide +kernel, by decide +kernel⟩
abbrev s_law_takes : Stmt := top 42
theorem sc_law_takes : FnScope ["houses", "signs", "stack", "sign", "helper", "room"] ["houses", "signs"] (defScope s_law_takes) := ⟨rfl, rfl, rfl, by decide +kernel, rfl, by decide +kernel, by decide +kernel⟩
abbrev s_law_first_apart : Stmt := top 43
theorem sc_law_first_apart : FnScope ["house", "other", "seen", "row", "at", "pair", "letter", "ahead"] ["house", "other"] (defScope s_law_first_apart) := ⟨rfl, rfl, rfl, by decide +kernel, rfl, by decide +kernel, by decide +kernel⟩
abbrev s_law_objection : Stmt := top 44
theorem sc_law_objection : FnScope ["houses", "shown", "j", "local", "row", "letter"] ["houses", "shown"] (defScope s_law_objection) := ⟨rfl, rfl, rfl, by decide +kernel, rfl, by decide +kernel, by decide +kernel⟩
abbrev s_law_led : Stmt := top 45
theorem sc_law_led : FnScope ["asker", "houses", "turn", "want", "row"] ["asker", "houses"] (defScope s_law_led) := ⟨rfl, rfl, rfl, by decide +kernel, rfl, by decide +kernel, by decide +kernel⟩
abbrev s_law_others : Stmt := top 46
theorem sc_law_others : FnScope ["houses", "script", "some", "j", "cell", "letters", "marks", "ways", "rooms", "room", "row"] ["houses", "script"] (defScope s_law_others) := ⟨rfl, rfl, rfl, by decide +kernel, rfl, by decide +kernel, by decide +kernel⟩
abbrev s_law : Stmt := top 47
theorem sc_law : FnScope ["script", "houses", "asker", "end", "others", "fits", "row", "taken", "j", "house"] ["script"] (defScope s_law) := ⟨rfl, rfl, rfl, by decide +kernel, rfl, by decide +kernel, by decide +kernel⟩
structure Txt (K : PySem.W.Frag) (mg : Str → Option Value) (CB CA CC : Addr) : Prop where
  is_word : DefAt K mg "is_word" s_is_word ["letters", "word"]
  look_at : DefAt K mg "look_at" s_look_at ["letters", "word", "mark"]
  Book_init : InitAt K mg "Book" CB "Book.__init__" s_Book_init ["self", "letters"]
  Book_put : MethAt K CB "put" "Book.put" s_Book_put ["self", "word", "mark"]
  Book_told : MethAt K CB "told" "Book.told" s_Book_told ["self", "word"]
  Book_heard : MethAt K CB "heard" "Book.heard" s_Book_heard ["self"]
  trail : DefAt K mg "trail" s_trail ["house", "word"]
  room_behind : DefAt K mg "room_behind" s_room_behind ["house", "word"]
  mark_behind : DefAt K mg "mark_behind" s_mark_behind ["house", "word"]
  rows_of : DefAt K mg "rows_of" s_rows_of ["letters", "access"]
  gap : DefAt K mg "gap" s_gap ["book", "letters", "access", "ends"]
  marks_of : DefAt K mg "marks_of" s_marks_of ["book", "word", "ends"]
  place_like : DefAt K mg "place_like" s_place_like ["book", "access", "ends", "marks"]
  stranger : DefAt K mg "stranger" s_stranger ["book", "letters", "access", "ends"]
  ways_by : DefAt K mg "ways_by" s_ways_by ["book", "letters", "access", "ends"]
  guess_of : DefAt K mg "guess_of" s_guess_of ["book", "letters", "access", "ends"]
  first_wrong : DefAt K mg "first_wrong" s_first_wrong ["book", "house"]
  Asker_init : InitAt K mg "Asker" CA "Asker.__init__" s_Asker_init ["self", "letters", "most"]
  Asker_wants : MethAt K CA "wants" "Asker.wants" s_Asker_wants ["self"]
  Asker_hear : MethAt K CA "hear" "Asker.hear" s_Asker_hear ["self", "mark"]
  Asker_settle : MethAt K CA "settle" "Asker.settle" s_Asker_settle ["self"]
  Asker_one_step : MethAt K CA "one_step" "Asker.one_step" s_Asker_one_step ["self"]
  Asker_take_in : MethAt K CA "take_in" "Asker.take_in" s_Asker_take_in ["self", "word"]
  nested : DefAt K mg "nested" s_nested ["plain", "helpers", "signs"]
  parts : DefAt K mg "parts" s_parts ["plain", "helpers", "signs"]
  spread : DefAt K mg "spread" s_spread ["plain", "helpers", "local", "rows"]
  takes : DefAt K mg "takes" s_takes ["works", "signs"]
  row_with : DefAt K mg "row_with" s_row_with ["plain", "helpers", "j", "use", "within"]
  use_row : DefAt K mg "use_row" s_use_row ["plain", "helpers", "j", "use", "local"]
  CallAsker_init : InitAt K mg "CallAsker" CC "CallAsker.__init__" s_CallAsker_init ["self", "plain", "helpers", "most", "uses"]
  CallAsker_wants : MethAt K CC "wants" "CallAsker.wants" s_CallAsker_wants ["self"]
  CallAsker_heard : MethAt K CC "heard" "CallAsker.heard" s_CallAsker_heard ["self"]
  CallAsker_hear : MethAt K CC "hear" "CallAsker.hear" s_CallAsker_hear ["self", "taken"]
  CallAsker_agree : MethAt K CC "agree" "CallAsker.agree" s_CallAsker_agree ["self"]
  CallAsker_settle : MethAt K CC "settle" "CallAsker.settle" s_CallAsker_settle ["self"]
  CallAsker_one_step : MethAt K CC "one_step" "CallAsker.one_step" s_CallAsker_one_step ["self"]
  CallAsker_use_step : MethAt K CC "use_step" "CallAsker.use_step" s_CallAsker_use_step ["self"]
  CallAsker_pending_step : MethAt K CC "pending_step" "CallAsker.pending_step" s_CallAsker_pending_step ["self"]
  CallAsker_local_step : MethAt K CC "local_step" "CallAsker.local_step" s_CallAsker_local_step ["self", "j", "local"]
  CallAsker_show_step : MethAt K CC "show_step" "CallAsker.show_step" s_CallAsker_show_step ["self"]
  law_cell_at : DefAt K mg "_law_cell_at" s_law_cell_at ["script", "k"]
  law_houses_by : DefAt K mg "_law_houses_by" s_law_houses_by ["script"]
  law_takes : DefAt K mg "_law_takes" s_law_takes ["houses", "signs"]
  law_first_apart : DefAt K mg "_law_first_apart" s_law_first_apart ["house", "other"]
  law_objection : DefAt K mg "_law_objection" s_law_objection ["houses", "shown"]
  law_led : DefAt K mg "_law_led" s_law_led ["asker", "houses"]
  law_others : DefAt K mg "_law_others" s_law_others ["houses", "script"]
  law : DefAt K mg "law" s_law ["script"]
  c_CB : Cls K CB
  n_CB_letters : NoAttr K CB "letters"
  n_CB_marks : NoAttr K CB "marks"
  c_CA : Cls K CA
  n_CA_letters : NoAttr K CA "letters"
  n_CA_most : NoAttr K CA "most"
  n_CA_book : NoAttr K CA "book"
  n_CA_ways : NoAttr K CA "ways"
  n_CA_ends : NoAttr K CA "ends"
  n_CA_hunt : NoAttr K CA "hunt"
  n_CA_wish : NoAttr K CA "wish"
  c_CC : Cls K CC
  n_CC_plain : NoAttr K CC "plain"
  n_CC_helpers : NoAttr K CC "helpers"
  n_CC_uses : NoAttr K CC "uses"
  n_CC_answers : NoAttr K CC "answers"
  n_CC_askers : NoAttr K CC "askers"
  n_CC_pending : NoAttr K CC "pending"
  n_CC_source : NoAttr K CC "source"
  n_CC_wish : NoAttr K CC "wish"
  mg_GREATEST : ∃ t, mg "GREATEST" = some (.int 1000000000 t)
  no_len : mg "len" = none
  no_range : mg "range" = none
  no_tuple : mg "tuple" = none
  no_list : mg "list" = none
  no_int : mg "int" = none
  no_enumerate : mg "enumerate" = none
end Gr
namespace Gr
open PySem L2
theorem tw_inv {u : Wd} {i : Nat} {x : V} (hx : (tw u)[i]? = some x) : ∃ z, u[i]? = some z ∧ x = nv z := by
  unfold tw at hx
  rw [List.getElem?_map] at hx
  cases e : u[i]? with
  | none => rw [e] at hx; cases hx
  | some z => rw [e] at hx; exact ⟨z, rfl, (Option.some.inj hx).symm⟩
section
variable {P : Program} {w : World} {K : PySem.W.Frag} {mg : Str → Option Value} {base : Heap} {CB CA CC : Addr}

/-! ### is_word -/
def spIsWord : Sp := fun vs H Q _ => ∃ (L : Nat) (v : V) (u : Wd), vs = [nv L, v] ∧ IsW H v u ∧ (∀ x ∈ u, x < L) ∧ Q (.bl true) H
theorem ok_is_word (T : Txt K mg CB CA CC) : Good P w K mg base 1 "is_word" ["letters", "word"] spIsWord := by
  refine T.is_word.good sc_is_word (fun vs H Q E h => ?_) (fun f cdv A outer s H vs Q E hr h => ?_)
  · obtain ⟨L, v, u, rfl, _⟩ := h
    rfl
  · obtain ⟨L, v, u, rfl, ⟨a, rfl, ha⟩, hl, k⟩ := h
    refine ⟨_, 
      (pss_cons (ps_for PassesOwn.never rfl (pi_tup (pv 1)) (pg_name (i := 2) sc_is_word.nd rfl (Or.inl rfl)) 
        (pss_one (ps_if (PW.pt (pw_or (pt_cmpR op_lt (pv 2) pe_int (nomark _)) (pw_or1 (pt_cmpR op_ge (pv 2) (pv 0) (nomark _))))) 
          (pss_one (ps_ret pe_bl)) pss_nil)))
      (pss_one (ps_ret pe_bl))), ?_⟩
    refine ⟨_, rfl, a, rfl, ⟨_, SqT.of ha⟩, for_tup (K := K) (a := a) (xs := tw u) (fun i σ H' => H' = H ∧ ∃ x, σ = [some (nv L), some (.ref a), x]) ⟨rfl, none, rfl⟩ (fun i σ H' _ p => ?_) ?_ ?_⟩
    · rw [p.1]
      exact SqT.of ha
    · rintro i x σ H' hx ⟨rfl, y, rfl⟩
      obtain ⟨z, hz, rfl⟩ := tw_inv hx
      have hzL := hl z (List.mem_of_getElem? hz)
      refine ⟨_, rfl, _, _, rfl, rfl, _, rfl, ?_⟩
      rw [decide_eq_false (show ¬ (z : Int) < 0 by omega)]
      refine iteF ?_
      refine ⟨_, rfl, _, rfl, _, _, rfl, rfl, _, rfl, ?_⟩
      rw [decide_eq_false (show ¬ (L : Int) ≤ (z : Int) by omega)]
      refine iteF ?_
      exact ⟨rfl, _, rfl⟩
    · rintro σ H' ⟨rfl, _, _⟩
      exact k

/-! ### look_at -/
def spLookAt : Sp := fun vs H Q _ => ∃ (L m : Nat) (v : V) (u : Wd), vs = [nv L, v, nv m] ∧ IsW H v u ∧ (∀ x ∈ u, x < L) ∧ m ≤ 1 ∧ Q .non H
theorem ok_look_at (T : Txt K mg CB CA CC) : Good P w K mg base 2 "look_at" ["letters", "word", "mark"] spLookAt := by
  refine T.look_at.good sc_look_at (fun vs H Q E h => ?_) (fun f cdv A outer s H vs Q E hr h => ?_)
  · obtain ⟨L, m, v, u, rfl, _⟩ := h
    rfl
  · obtain ⟨L, m, v, u, rfl, hv, hl, hm, k⟩ := h
    obtain ⟨tg, hg⟩ := T.mg_GREATEST
    refine ⟨_, 
      (pss_cons (ps_if (pt_not (pt_val (pe_callG (ok_is_word T) (hr.mono (by decide)) rfl (pa_cons (pv 0) (pa_cons (pv 1) pa_nil))))) pss_never pss_nil)
      (pss_one (ps_if (PW.pt (pw_or (pt_cmpR op_lt (pv 2) pe_int (nomark _)) (pw_or1 (pt_cmpR op_gt (pv 2) (pe_glob (v := .int 1000000000) rfl hg ⟨_, rfl⟩) (nomark _))))) pss_never pss_nil))), ?_⟩
    refine ⟨_, rfl, _, rfl, L, v, u, rfl, hv, hl, _, rfl, iteF ?_⟩
    refine ⟨_, rfl, _, _, rfl, rfl, _, rfl, ?_⟩
    rw [decide_eq_false (show ¬ (m : Int) < 0 by omega)]
    refine iteF ⟨_, rfl, _, _, rfl, rfl, _, rfl, ?_⟩
    rw [decide_eq_false (show ¬ (1000000000 : Int) < (m : Int) by omega)]
    exact iteF k

/-! ### Book -/
abbrev bookN : List Str := ["letters", "marks"]
def keyW (u : Wd) : List L2.Key := u.map fun (n : Nat) => (Sum.inl (n : Int) : L2.Key)
theorem keyW_tw (u : Wd) : (keyW u).map kV = tw u := by
  unfold keyW tw
  rw [List.map_map]
  rfl
theorem keyW_inj : ∀ {u v : Wd}, keyW u = keyW v → u = v
  | [], [], _ => rfl
  | [], _ :: _, h => by simp [keyW] at h
  | _ :: _, [], h => by simp [keyW] at h
  | a :: u, b :: v, h => by
    simp only [keyW, List.map_cons, List.cons.injEq, Sum.inl.injEq, Int.natCast_inj] at h
    rw [h.1, keyW_inj (u := u) (v := v) h.2]
abbrev Bk := List (Wd × Nat)
def told (bk : Bk) (u : Wd) : Option Nat := (bk.find? fun p => decide (p.1 = u)).map (·.2)
def kvB (bk : Bk) : List (List L2.Key × V) := bk.map fun p => (keyW p.1, nv p.2)
theorem valV_kvB (u : Wd) : ∀ bk : Bk, valV (kvB bk) (keyW u) = (told bk u).map nv
  | [] => rfl
  | p :: bk => by
    have ih := valV_kvB u bk
    by_cases e : p.1 = u
    · have e1 : valV (kvB (p :: bk)) (keyW u) = some (nv p.2) := valV_pos (p := (keyW p.1, nv p.2)) (by rw [e])
      rw [e1]
      simp [told, List.find?_cons, e]
    · have e1 : valV (kvB (p :: bk)) (keyW u) = valV (kvB bk) (keyW u) := valV_neg (p := (keyW p.1, nv p.2)) fun q => e (keyW_inj q)
      rw [e1, ih]
      simp [told, List.find?_cons, e]
/-- a Book at b, its dict at d -/
structure BookAt (CB : Addr) (H : Hp) (b d : Addr) (L : Nat) (bk : Bk) : Prop where
  ob : ∃ dx, H b = some (.ins CB dx (bookN.zip [nv L, .ref d]))
  dc : H d = some (.dT (kvB bk))
theorem nm_letters : ixOf bookN "letters" = some 0 := by decide +kernel
theorem nm_marks : ixOf bookN "marks" = some 1 := by decide +kernel
def oV : Option Nat → V
  | some m => nv m
  | none => .non
theorem oV_getD (o : Option Nat) : (o.map nv).getD .non = oV o := by cases o <;> rfl
theorem IsW.dget {H : Hp} {d : Addr} {v : V} {u : Wd} {kvs : List (List L2.Key × V)} (h : IsW H v u) (hd : H d = some (.dT kvs)) : DGet H d v (valV kvs (keyW u)) := by
  obtain ⟨a, rfl, ha⟩ := h
  exact DGet.t hd (by rw [keyW_tw]; exact ha)

def spBookInit (CB : Addr) : Sp := fun vs H Q _ => ∃ (p dx : Addr) (L : Nat), vs = [.ref p, nv L] ∧ H p = some (.ins CB dx []) ∧
  ∀ d H', H d = none → H' d = some (.dT []) → H' p = some (.ins CB dx (bookN.zip [nv L, .ref d])) → (∀ b o, H b = some o → b ≠ p → H' b = some o) → Q .non H'
theorem ok_Book_init (T : Txt K mg CB CA CC) : GoodI P w K mg base 1 "Book" CB ["self", "letters"] (spBookInit CB) := by
  refine T.Book_init.good sc_Book_init (fun vs H Q E h => ?_) (fun f cdv A outer s H vs Q E hr h => ?_)
  · obtain ⟨p, dx, L, rfl, _⟩ := h
    rfl
  · obtain ⟨p, dx, L, rfl, hp, k⟩ := h
    refine ⟨_, 
      (pss_cons (ps_fld (pv 0) (pv 1) rfl)
      (pss_one (ps_fld (pv 0) pe_dnewT rfl))), ?_⟩
    refine ⟨_, rfl, _, rfl, p, CB, dx, _, rfl, hp, T.c_CB, T.n_CB_letters, (by show 0 < 1000; decide), fun d hd => ?_⟩
    have npd : p ≠ d := fun e => by
      rw [← e, upd_same] at hd
      cases hd
    have hd0 : H d = none := by
      rw [upd_ne npd.symm] at hd
      exact hd
    refine ⟨_, rfl, p, CB, dx, _, rfl, (by rw [upd_ne npd]; exact upd_same), T.c_CB, T.n_CB_marks, (by show 1 < 1000; decide), ?_⟩
    refine k d _ hd0 (by rw [upd_ne npd.symm, upd_same]) (Eq.trans upd_same ?_) fun b o hb nb => ?_
    · rw [show putF "letters" (nv L) [] = (["letters"] : List Str).zip [nv L] from rfl, putF_snoc (by decide +kernel) rfl]
      rfl
    · rw [upd_ne nb, upd_ne (ne_of_none hb hd0), upd_ne nb]
      exact hb

def spBookTold (CB : Addr) : Sp := fun vs H Q _ => ∃ (b d : Addr) (L : Nat) (bk : Bk) (v : V) (u : Wd), vs = [.ref b, v] ∧ BookAt CB H b d L bk ∧ IsW H v u ∧ Q (oV (told bk u)) H
theorem ok_Book_told (T : Txt K mg CB CA CC) : GoodM P w K mg base 1 CB "told" ["self", "word"] (spBookTold CB) := by
  refine T.Book_told.good sc_Book_told (fun vs H Q E h => ?_) (fun f cdv A outer s H vs Q E hr h => ?_)
  · obtain ⟨b, d, L, bk, v, u, rfl, _⟩ := h
    rfl
  · obtain ⟨b, d, L, bk, v, u, rfl, ⟨⟨dx, hb⟩, hd⟩, hv, k⟩ := h
    have hu := hu_of hr
    refine ⟨_, 
      (pss_one (ps_ret (pe_dget1 hu (pe_fldX (pv 0) rfl) (pv 1) ⟨rfl, rfl, rfl, rfl⟩))), ?_⟩
    refine ⟨_, rfl, rd_fld hb T.c_CB T.n_CB_marks (zip_lookup nm_marks rfl rfl) ⟨d, rfl, .inr ⟨_, .inl hd⟩, _, rfl, _, hv.dget hd, ?_⟩⟩
    rw [valV_kvB, oV_getD]
    exact k
end
end Gr
namespace Gr
open PySem L2
/-! ### words and rows of marks as data -/
theorem eqvAll_map {α : Type} [DecidableEq α] {f : α → PyData} (hf : ∀ a b, PyData.eqv (f a) (f b) = decide (a = b)) : ∀ xs ys : List α, PyData.eqvAll (xs.map f) (ys.map f) = decide (xs = ys)
  | [], [] => by simp [PyData.eqvAll]
  | [], _ :: _ => by simp [PyData.eqvAll]
  | _ :: _, [] => by simp [PyData.eqvAll]
  | x :: xs, y :: ys => by
    simp only [List.map_cons, PyData.eqvAll, hf x y, eqvAll_map hf xs ys, List.cons.injEq, Bool.decide_and]
def dInt (n : Nat) : PyData := .int (n : Int)
theorem dInt_eqv (a b : Nat) : PyData.eqv (dInt a) (dInt b) = decide (a = b) := by
  show ((a : Int) == (b : Int)) = decide (a = b)
  rw [Bool.eq_iff_iff]
  simp
  omega
def wdD (u : Wd) : PyData := .tuple (u.map dInt)
theorem wdD_eqv (a b : Wd) : PyData.eqv (wdD a) (wdD b) = decide (a = b) := by
  show PyData.eqvAll (a.map dInt) (b.map dInt) = _
  exact eqvAll_map dInt_eqv a b
theorem ints_lay : ∀ u : Wd, PyData.canLayAll0 (u.map dInt) = true
  | [] => by simp [PyData.canLayAll0]
  | z :: zs => by simp [PyData.canLayAll0, ints_lay zs, dInt, PyData.canLay0]
theorem ints_depth : ∀ u : Wd, PyData.depthAll (u.map dInt) ≤ 1
  | [] => by simp [PyData.depthAll]
  | z :: zs => by
    have h1 := ints_depth zs
    simp only [List.map_cons, PyData.depthAll, dInt, PyData.depth]
    omega
theorem wdD_depth (u : Wd) : (wdD u).depth ≤ 2 := by
  have := ints_depth u
  simp only [wdD, PyData.depth]
  omega
theorem wdD_shaped (u : Wd) : SeqAt.shaped (wdD u) = true := by
  have h := wdD_depth u
  show ((wdD u).canLay0 && decide ((wdD u).depth ≤ 64)) = true
  rw [Bool.and_eq_true]
  exact ⟨by simp only [wdD, PyData.canLay0]; exact ints_lay u, decide_eq_true (by omega)⟩
theorem wds_lay : ∀ us : List Wd, PyData.canLayAll0 (us.map wdD) = true
  | [] => by simp [PyData.canLayAll0]
  | u :: us => by
    have := ints_lay u
    simp [PyData.canLayAll0, wds_lay us, wdD, PyData.canLay0, this]
theorem wds_depth : ∀ us : List Wd, PyData.depthAll (us.map wdD) ≤ 2
  | [] => by simp [PyData.depthAll]
  | u :: us => by
    have h1 := wds_depth us
    have h2 := wdD_depth u
    simp only [List.map_cons, PyData.depthAll]
    omega
theorem wds_shaped (us : List Wd) : SeqAt.shaped (.list (us.map wdD)) = true := by
  have h := wds_depth us
  show (PyData.canLay0 (.list (us.map wdD)) && decide (PyData.depth (.list (us.map wdD)) ≤ 64)) = true
  rw [Bool.and_eq_true]
  exact ⟨by simp only [PyData.canLay0]; exact wds_lay us, decide_eq_true (by simp only [PyData.depth]; omega)⟩
theorem dp_ints {K : PySem.W.Frag} {H : Hp} : ∀ u : Wd, DpAll K H (tw u) (u.map dInt)
  | [] => .nil
  | z :: u => .cons (.int _) (dp_ints u)
theorem IsW.dp {K : PySem.W.Frag} {H : Hp} {v : V} {u : Wd} (h : IsW H v u) : Dp K H v (wdD u) := by
  obtain ⟨a, rfl, ha⟩ := h
  exact .tup (SqT.of ha) (dp_ints u)
theorem dp_wds {K : PySem.W.Frag} {H : Hp} : ∀ {vs : List V} {us : List Wd}, Paired (IsW H) vs us → DpAll K H vs (us.map wdD)
  | _, _, .nil => .nil
  | _, _, .cons r t => .cons r.dp (dp_wds t)
theorem IsL2.dp {K : PySem.W.Frag} {H : Hp} {a : Addr} {us : List Wd} (h : IsL2 H a us) : Dp K H (.ref a) (.list (us.map wdD)) := by
  obtain ⟨vs, ha, p⟩ := h
  exact .lst (SqL.of ha) (dp_wds p)
theorem any_wds (u : Wd) (us : List Wd) : ((us.map wdD).any fun z => PyData.eqv z (wdD u)) = decide (u ∈ us) := by
  rw [Bool.eq_iff_iff]
  simp only [List.any_eq_true, List.mem_map, decide_eq_true_eq]
  constructor
  · rintro ⟨z, ⟨x, hx, rfl⟩, e⟩
    rw [wdD_eqv] at e
    rw [← of_decide_eq_true e]
    exact hx
  · intro h
    exact ⟨_, ⟨u, h, rfl⟩, by rw [wdD_eqv]; exact decide_eq_true rfl⟩
/-- longer not in rows -/
theorem rd_notIn {K : PySem.W.Frag} {H : Hp} {v : V} {a : Addr} {u : Wd} {us : List Wd} {Q : VK} (h : IsW H v u) (h' : IsL2 H a us) (k : Q (.bl (!decide (u ∈ us))) H) : rNotInD K v (.ref a) H Q :=
  ⟨_, _, h.dp, h'.dp, wdD_shaped u, wds_shaped us, by rw [any_wds]; exact k⟩
def dOpt : Option Nat → PyData
  | some m => .int (m : Int)
  | none => .none
theorem dOpt_eqv (a b : Option Nat) : PyData.eqv (dOpt a) (dOpt b) = decide (a = b) := by
  cases a with
  | none => cases b with
    | none => rfl
    | some b => rfl
  | some a => cases b with
    | none => rfl
    | some b =>
      show ((a : Int) == (b : Int)) = decide (some a = some b)
      rw [Bool.eq_iff_iff]
      simp
      omega
abbrev Mks := List (Option Nat)
theorem opts_lay : ∀ u : Mks, PyData.canLayAll0 (u.map dOpt) = true
  | [] => by simp [PyData.canLayAll0]
  | none :: zs => by simp [PyData.canLayAll0, opts_lay zs, dOpt, PyData.canLay0]
  | some z :: zs => by simp [PyData.canLayAll0, opts_lay zs, dOpt, PyData.canLay0]
theorem opts_depth : ∀ u : Mks, PyData.depthAll (u.map dOpt) ≤ 1
  | [] => by simp [PyData.depthAll]
  | none :: zs => by
    have h1 := opts_depth zs
    simp only [List.map_cons, PyData.depthAll, dOpt, PyData.depth]
    omega
  | some z :: zs => by
    have h1 := opts_depth zs
    simp only [List.map_cons, PyData.depthAll, dOpt, PyData.depth]
    omega
theorem opts_shaped (us : Mks) : SeqAt.shaped (.list (us.map dOpt)) = true := by
  have h := opts_depth us
  show (PyData.canLay0 (.list (us.map dOpt)) && decide (PyData.depth (.list (us.map dOpt)) ≤ 64)) = true
  rw [Bool.and_eq_true]
  exact ⟨by simp only [PyData.canLay0]; exact opts_lay us, decide_eq_true (by simp only [PyData.depth]; omega)⟩
theorem dp_opts {K : PySem.W.Frag} {H : Hp} : ∀ u : Mks, DpAll K H (u.map oV) (u.map dOpt)
  | [] => .nil
  | none :: u => .cons .non (dp_opts u)
  | some z :: u => .cons (.int _) (dp_opts u)
theorem rd_eqM {K : PySem.W.Frag} {H : Hp} {a b : Addr} {x y : Mks} {Q : VK} (h : H a = some (.lst (x.map oV))) (h' : H b = some (.lst (y.map oV))) (k : Q (.bl (decide (x = y))) H) : rEqD K (.ref a) (.ref b) H Q :=
  ⟨_, _, .lst (SqL.of h) (dp_opts x), .lst (SqL.of h') (dp_opts y), opts_shaped x, opts_shaped y, by
    have e : PyData.eqv (.list (x.map dOpt)) (.list (y.map dOpt)) = decide (x = y) := eqvAll_map dOpt_eqv x y
    rw [e]
    exact k⟩
end Gr
namespace Gr
open PySem L2
/-! ### the rows of a table -/
def rowsStep (u : Wd) (rows : List Wd) (l : Nat) : List Wd := if u ++ [l] ∈ rows then rows else rows ++ [u ++ [l]]
def rowsIn (L : Nat) (rows : List Wd) (u : Wd) : List Wd := (List.range L).foldl (rowsStep u) rows
def rowsF (L : Nat) (acc : List Wd) : List Wd := acc.foldl (rowsIn L) acc
theorem rowsStep_len (u : Wd) (rows : List Wd) (l : Nat) : (rowsStep u rows l).length ≤ rows.length + 1 := by
  unfold rowsStep
  split
  · omega
  · simp
theorem rowsIn_len (u : Wd) (rows : List Wd) : ∀ n, ((List.range n).foldl (rowsStep u) rows).length ≤ rows.length + n
  | 0 => by simp
  | n + 1 => by
    rw [List.range_succ, List.foldl_append]
    have h1 := rowsIn_len u rows n
    have h2 := rowsStep_len u ((List.range n).foldl (rowsStep u) rows) n
    simp only [List.foldl_cons, List.foldl_nil]
    omega
theorem rows_len (L : Nat) : ∀ (us rows : List Wd), (us.foldl (rowsIn L) rows).length ≤ rows.length + us.length * L
  | [], rows => by simp
  | u :: us, rows => by
    have h1 := rows_len L us (rowsIn L rows u)
    have h2 := rowsIn_len u rows L
    have h3 : (u :: us).length * L = us.length * L + L := by rw [List.length_cons, Nat.succ_mul]
    have h4 : (rowsIn L rows u).length = ((List.range L).foldl (rowsStep u) rows).length := rfl
    rw [List.foldl_cons, h3]
    omega
theorem foldl_take {α β : Type} (f : β → α → β) (b : β) {xs : List α} {i : Nat} {x : α} (h : xs[i]? = some x) : (xs.take (i + 1)).foldl f b = f ((xs.take i).foldl f b) x := by
  rw [List.take_add_one, h, List.foldl_append]
  rfl
theorem IsL2.app {H' : Hp} {p : Addr} {us : List Wd} {v : V} {u : Wd} {vs : List V} (h : H' p = some (.lst vs)) (pr : Paired (IsW H') vs us) (hv : IsW H' v u) : IsL2 (upd H' p (.lst (vs ++ [v]))) p (us ++ [u]) := by
  refine ⟨_, upd_same, pair_snoc (Paired.mapP pr fun _ _ q => q.tx ?_) (hv.tx ?_)⟩
  all_goals
    intro b xs e
    rw [upd_ne (ne_of e h (fun z => nomatch z))]
    exact e
theorem units65 {k : Nat} {A : Around} (r : Room k A) : A.units + 65 < cLine := by
  have := r.un
  omega
section
variable {P : Program} {w : World} {K : PySem.W.Frag} {mg : Str → Option Value} {base : Heap} {CB CA CC : Addr}
def spRowsOf : Sp := fun vs H Q _ => ∃ (L : Nat) (a : Addr) (acc : List Wd), vs = [nv L, .ref a] ∧ IsL2 H a acc ∧ L ≤ 4 ∧ acc.length ≤ 2 ∧ (∀ u ∈ acc, u.length ≤ 100) ∧
  ∀ p H', H p = none → Same H H' → IsL2 H' p (rowsF L acc) → Q (.ref p) H'
theorem ok_rows_of (T : Txt K mg CB CA CC) : Good P w K mg base 1 "rows_of" ["letters", "access"] spRowsOf := by
  refine T.rows_of.good sc_rows_of (fun vs H Q E h => ?_) (fun f cdv A outer s H vs Q E hr h => ?_)
  · obtain ⟨L, a, acc, rfl, _⟩ := h
    rfl
  · obtain ⟨L, a, acc, rfl, ⟨xs, ha, pr⟩, hL, hn, hz, k⟩ := h
    refine ⟨_, 
      (pss_cons (ps_set (i := 2) sc_rows_of.nd rfl (Or.inl rfl) (pe_callTy call_list_of (by rfl) T.no_list (by decide +kernel) (pa_cons (pv 1) pa_nil)))
      (pss_cons (ps_for PassesOwn.never rfl (pi_list (pv 1)) (pg_name (i := 3) sc_rows_of.nd rfl (Or.inl rfl)) 
        (pss_one (ps_for PassesOwn.never rfl (pi_range1 (by rfl) T.no_range (pa_cons (pv 0) pa_nil)) (pg_name (i := 4) sc_rows_of.nd rfl (Or.inl rfl)) 
          (pss_cons (ps_set (i := 5) sc_rows_of.nd rfl (Or.inl rfl) (pe_op op_catX (pv 3) (pe_tupX (pa_cons (pv 4) pa_nil))))
          (pss_one (ps_if (pt_cmpR (op_notInD (units65 hr)) (pv 5) (pv 2) (by rfl)) 
            (pss_one (ps_expr (pe_bm PySem.F.plainAttrs_list PySem.F.slot_list_append PySem.F.type_list_append mt_append (pv 2) (pa_cons (pv 5) pa_nil)))) pss_nil))))))
      (pss_one (ps_ret (pv 2))))), ?_⟩
    refine ⟨_, rfl, a, _, rfl, .inl (SqL.of ha), fun p hp => ?_⟩
    have h0 : IsL2 (upd H p (.lst xs)) p acc := ⟨xs, upd_same, Paired.mapP pr fun _ _ q => q.mono (same_new hp)⟩
    have lx : xs.length = acc.length := Paired.length pr
    refine ⟨_, rfl, a, rfl, ⟨_, SqL.of (same_new hp _ _ ha)⟩, for_list (K := K) (a := a) (xs := xs) (fun i σ H' => Same H H' ∧ IsL2 H' p ((acc.take i).foldl (rowsIn L) acc) ∧ ∃ x3 x4 x5, σ = [some (nv L), some (.ref a), some (.ref p), x3, x4, x5])
      ⟨same_new hp, h0, none, none, none, rfl⟩ (fun i σ H' _ q => SqL.of (q.1 _ _ ha)) ?_ ?_⟩
    · rintro i x σ H1 hx ⟨s1, r1, x3, x4, x5, rfl⟩
      obtain ⟨u, hu, hxu⟩ := pair_get' pr hx
      have il : i < acc.length := (List.getElem?_eq_some_iff.mp hu).1
      have hul := hz u (List.mem_of_getElem? hu)
      refine ⟨_, rfl, _, rfl, by omega, by omega, for_range (lo := 0) (n := L) (fun j σ H' => Same H H' ∧ IsL2 H' p ((List.range j).foldl (rowsStep u) ((acc.take i).foldl (rowsIn L) acc)) ∧ ∃ x4 x5, σ = [some (nv L), some (.ref a), some (.ref p), some x, x4, x5])
        ⟨s1, r1, x4, x5, rfl⟩ ?_ ?_⟩
      · rintro j σ H2 hj ⟨s2, r2, y4, y5, rfl⟩
        have ej : (0 : Int) + (j : Int) = ((j : Nat) : Int) := Int.zero_add _
        refine ⟨_, rfl, _, rfl, (by show 1 ≤ sizeLine; decide), fun t H3 e3 ht => ?_⟩
        have hxw : IsW H3 x u := (hxu.mono s2).mono e3
        have hjw : IsW H3 (.ref t) [j] := ⟨t, rfl, by rw [ht, ej]; rfl⟩
        refine rd_cat hxw hjw (by simp; omega) fun v H4 e4 hv => ?_
        have s4 : Same H H4 := s2.trans (e3.trans e4)
        have r4 := (r2.mono e3).mono e4
        refine ⟨_, rfl, _, rfl, rd_notIn hv r4 ⟨_, rfl, ?_⟩⟩
        rw [show (List.range (j + 1)).foldl (rowsStep u) ((acc.take i).foldl (rowsIn L) acc) = rowsStep u ((List.range j).foldl (rowsStep u) ((acc.take i).foldl (rowsIn L) acc)) j by rw [List.range_succ, List.foldl_append]; rfl]
        generalize hR : (List.range j).foldl (rowsStep u) ((acc.take i).foldl (rowsIn L) acc) = R at r4
        have lR : R.length ≤ 100 := by
          rw [← hR]
          have h1 := rowsIn_len u ((acc.take i).foldl (rowsIn L) acc) j
          have h2 := rows_len L (acc.take i) acc
          have h3 : (acc.take i).length * L ≤ 2 * 4 := Nat.mul_le_mul (by rw [List.length_take]; omega) hL
          omega
        by_cases hm : u ++ [j] ∈ R
        · rw [decide_eq_true hm]
          refine iteF ⟨s4, ?_, _, _, rfl⟩
          rw [rowsStep, if_pos hm]
          exact r4
        · rw [decide_eq_false hm]
          obtain ⟨zs, hzs, pz⟩ := id r4
          refine iteT ⟨_, rfl, .inl ⟨rfl, _, SqL.of hzs⟩, _, rfl, p, zs, _, rfl, rfl, hzs, ?_, ?_⟩
          · rw [Paired.length pz]
            exact Nat.lt_of_le_of_lt lR (by decide)
          · refine ⟨same_mut s4 hp, ?_, _, _, rfl⟩
            rw [rowsStep, if_neg hm]
            exact IsL2.app hzs pz hv
      · rintro σ H2 ⟨s2, r2, y4, y5, rfl⟩
        refine ⟨s2, ?_, _, _, _, rfl⟩
        rw [foldl_take _ _ hu]
        exact r2
    · rintro σ H1 ⟨s1, r1, x3, x4, x5, rfl⟩
      rw [lx, List.take_length] at r1
      exact ⟨_, rfl, k p H1 hp s1 r1⟩
end
end Gr
namespace Gr
open PySem L2 PySem.Spec PyProof.Rows

/-! ### for k, v in d.items(), d's keys tuples -/
section
variable {X : Cx} {pins : List (Addr × Obj)} {σ : L2.St} {H : Hp} {s : Shared} {d : Addr} {o : Obj}
theorem frzT2 {kvs : List (List L2.Key × V)} (I : Inv X pins σ H s) (h : H d = some (.frz o (.dT kvs))) :
    (d == sysModules) = false ∧ s.heap.get? d = some o ∧ o.ExactDict ∧ ∃ (es : Array DictEntry) (ep : Nat), o.data = .dict es ep ∧ es.size = kvs.length ∧
      ∀ (i : Nat) (k : List L2.Key) (v : V), kvs[i]? = some (k, v) → ∃ (en : DictEntry) (q : Addr), es[i]? = some en ∧ en.key = .ref q ∧ H q = some (.tup (k.map kV)) ∧ RelV v en.val := by
  obtain ⟨hd, z, hs, xs, pr, o', es, ep, ho, hx, hdt, he, _⟩ := I.hok d _ h
  rw [hd] at ho
  cases ho
  refine ⟨hs, hd, hx, es, ep, hdt, ?_, fun i k v e => ?_⟩
  · have l1 : es.size = xs.length := size_of_entries he
    have l2 : kvs.length = xs.length := Paired.length pr
    omega
  · obtain ⟨b, hb, e1, e2, r⟩ := paired_get pr e
    have q := entry_at he i
    rw [hb] at q
    exact ⟨_, b.2.1, q, rfl, e2, r⟩
end
/-- the pairs, each a new tuple of the key's own tuple and the value -/
def ItiT (d : Addr) (o : Obj) (kvs : List (List L2.Key × V)) : It :=
  ⟨fun i H => H d = some (.frz o (.dT kvs)) ∧ i < kvs.length, fun i H x H' => ∃ T k v q, kvs[i]? = some (k, v) ∧ x = .ref T ∧ H T = none ∧ H q = some (.tup (k.map kV)) ∧ H' = upd H T (.tup [.ref q, v]), fun i H => H d = some (.frz o (.dT kvs)) ∧ kvs.length ≤ i⟩
section
variable {P : Program} {w : World} {K : PySem.W.Frag} {d : Addr} {o : Obj} {es : Array DictEntry} {ep : Nat}
theorem turn_itemsT {kvs : List (List L2.Key × V)} {elts : List Expr} {kk : Nat} {tpos : Pos} (it : Addr) (hod : o.data = .dict es ep) :
    Turn P w K (.Tuple elts kk tpos) (ItiT d o kvs) [it] it (fun i h => ∃ ok ov, IsItemIter h it d i es.size ep ok ov) where
  mem := by simp
  obj := fun i h st b hb => by
    have e : b = it := by simpa using hb
    subst e
    obtain ⟨ok, ov, e⟩ := st
    exact ⟨_, e, fun v z => nomatch z⟩
  keep := fun i h h' st k => let ⟨ok, ov, e⟩ := st; ⟨ok, ov, k it (by simp) _ e⟩
  item := by
    intro X hP hw hK hc i pins s σ H E I hf st hg
    subst hP hw hK
    obtain ⟨hd, hi⟩ := hg
    obtain ⟨hs, hgd, hx, es', ep', hdt, hsz, ent⟩ := frzT2 I hd
    obtain ⟨rfl, rfl⟩ := dict_ep hod hdt
    obtain ⟨⟨k, v⟩, hkv⟩ : ∃ p, kvs[i]? = some p := ⟨kvs[i], List.getElem?_eq_getElem hi⟩
    obtain ⟨en, q, hen, hkey, hq, rv⟩ := ent i k v hkv
    obtain ⟨ok, ov, he⟩ := st
    have hlt : it < s.heap.objs.size := Heap.lt_size he
    have hie : i < es'.size := by omega
    have hen' : es'[i] = en := by
      have := Array.getElem?_eq_getElem hie
      rw [this] at hen
      exact Option.some.inj hen
    refine DT.nextI (es := es') he ⟨o, hgd, hx, hdt⟩ hie fun h' ho hT hz hk => ?_
    rw [hen'] at ho hT
    refine ⟨_, rfl, wpAny_letOwnedTupleGo_items (s := { s with heap := h' }) ho fun h'' he' sb => ?_⟩
    have hT2 : h''.get? s.heap.objs.size = some { cls := .type "tuple", data := .seq #[en.key, en.val] } := (sb.2 _ (Nat.ne_of_gt hlt)).trans hT
    have new : ObjOk X.prog X.w (upd H s.heap.objs.size (.tup [.ref q, v])) h'' s.heap.objs.size (.tup [.ref q, v]) :=
      ⟨by show 2 ≤ sizeLine; decide, [en.key, en.val], .cons (show RelV (.ref q) en.key from hkey) (.cons rv .nil), ⟨_, hT2, rfl, _, rfl⟩⟩
    have I1 : Inv X pins σ (upd H s.heap.objs.size (.tup [.ref q, v])) { s with heap := h'' } :=
      I.turnedNew (t' := s.toks) (ch := [it]) (fun b ob hb e => (sb.2 b (by simpa using hb)).trans (hk b ob (by simpa using hb) e)) hf (Nat.le_refl _) new
    refine ⟨.ref s.heap.objs.size, _, I1, rfl, ⟨_, k, v, q, hkv, rfl, I.hok.fresh (Nat.le_refl _), hq, rfl⟩, ⟨en.key, en.val, he'⟩, fun b hb => ?_⟩
    have e : b = it := by simpa using hb
    rw [e, upd_ne (Nat.ne_of_lt hlt)]
    exact (hf it (by simp)).1
  done := by
    intro X hP hw hK hc i pins s σ H E I hf st hg
    subst hP hw hK
    obtain ⟨hd, hi⟩ := hg
    obtain ⟨f0, f1, f2, f3, f4, f5⟩ := hf it (by simp)
    obtain ⟨hs, hgd, hx, es', ep', hdt, hsz, ent⟩ := frzT2 I hd
    obtain ⟨rfl, rfl⟩ := dict_ep hod hdt
    obtain ⟨ok, ov, he⟩ := st
    exact DT.endI (es := es') (I.ok.hd hc) he ⟨o, hgd, hx, hdt⟩ (by omega) fun h' eb => ⟨rfl, I.turned (t' := s.toks) (fun b ob hb e => eb b ob hb e) f0 f1 f3 f4 f5⟩
  self := fun A i s Q E st h => let ⟨_, _, e⟩ := st; PySem.W.kcp_self e h
end
def iItemsT (td : TE) : TI := fun σ H R => td σ H fun x H1 => ∃ d o kvs, x = .ref d ∧ H1 d = some (.frz o (.dT kvs)) ∧ R (ItiT d o kvs) H1
theorem pi_itemsT {X : Cx} {e : Expr} {td : TE} {apos cpos : Pos} {elts : List Expr} {kk : Nat} {tpos : Pos} (he : PE X e td) (hbase : attributeBase e "items" X.env (eval e X.env) = eval e X.env := by rfl) (hline : (apos.endLine == cpos.line) = true := by rfl) :
    PI X (.Tuple elts kk tpos) (.Call (.Attribute e "items" apos) [] [] cpos) (iItemsT td) := by
  refine ⟨fun pins s σ H R I h => ?_⟩
  refine wpAny_Call_method (T := "dict") (id := "dict.items") hbase rfl hline F.plainAttrs_dict F.slot_dict_items F.type_dict_items (thn (he.run pins s σ H _ I h) fun u s1 ⟨x, H1, I1, rx, d, o, kvs, ex, hd, q⟩ => ?_)
  subst ex
  obtain rfl : u = Value.ref d := rx
  obtain ⟨hs, hgd, hx, es, ep, hdt, hsz, ent⟩ := frzT2 I1 hd
  have raw : DT.Raw s1.heap d es ep := ⟨o, hgd, hx, hdt⟩
  refine ⟨raw.typeIs, fun b q => (by cases q; exact ⟨o, hgd, hx.2.1⟩), ?_⟩
  have I2 : Inv X pins σ H1 { s1 with heap := s1.heap.push { cls := .type "dict_items", data := .fields #[.ref d] } } := I1.kept (t' := s1.toks) fun b ob q => Heap.get?_push_of_some _ q
  have fin : wpAny (model X.prog X.w) X.A (pyIter (.ref s1.heap.objs.size)) (PIE X pins σ (.Tuple elts kk tpos) R) X.xe { s1 with heap := s1.heap.push { cls := .type "dict_items", data := .fields #[.ref d] } } := by
    refine DT.iterI (d := d) (es := es) (ep := ep) ⟨_, Heap.get?_push_size _ rfl, rfl, rfl⟩ (raw.push _) (pi_one (tk := s1.toks) I2 _ (turn_itemsT _ hdt) ⟨.none, .none, ?_⟩ q)
    exact Heap.get?_push_size _ rfl
  show wpAny _ _ (callWith cpos (.builtin "dict.items") [.ref d] [] []) _ X.xe s1
  exact method_meetsIn F.slot_dict_items F.entry_dict_items rfl (PySem.evalArgs_none ⟨rfl, raw.typeIs, F.args_dict_items_1 _, _, DT.meetsItems (es := es) (ep := ep) hs, raw, fin⟩)
/-- over a locked dict with tuple keys: the body may not change it -/
theorem for_itemsT {d : Addr} {o : Obj} {kvs : List (List L2.Key × V)} {g : TG} {tb : TS} {D : Ends} {σ : L2.St} {H : Hp} (Pv : Nat → L2.St → Hp → Prop) (h0 : Pv 0 σ H) (hl : ∀ i σ H, i ≤ kvs.length → Pv i σ H → H d = some (.frz o (.dT kvs)))
    (hs : ∀ i k v T q σ H, kvs[i]? = some (k, v) → Pv i σ H → H T = none → H q = some (.tup (k.map kV)) → g (.ref T) σ (upd H T (.tup [.ref q, v])) fun σ2 H2 => tb { D with nx := Pv (i + 1), ct := Pv (i + 1), bk := D.nx } σ2 H2) (hd : ∀ σ H, Pv kvs.length σ H → D.nx σ H) :
    ∃ W : Nat → Nat → L2.St → Hp → Prop, (∃ m, W 0 m σ H) ∧ ∀ i m σ H, W i m σ H →
      ((ItiT d o kvs).stop i H ∧ D.nx σ H) ∨ ((ItiT d o kvs).go i H ∧ ∃ N : L2.St → Hp → Prop, (∀ σ' H', N σ' H' → ∃ m', m' < m ∧ W (i + 1) m' σ' H') ∧ ∀ x H', (ItiT d o kvs).yld i H x H' → g x σ H' fun σ2 H2 => tb { D with nx := N, ct := N, bk := D.nx } σ2 H2) := by
  refine ⟨fun i m σ H => m = kvs.length - i ∧ i ≤ kvs.length ∧ Pv i σ H, ⟨kvs.length, by simp, Nat.zero_le _, h0⟩, ?_⟩
  rintro i m σ H ⟨rfl, hi, p⟩
  have q := hl i σ H hi p
  by_cases hlt : i < kvs.length
  · refine .inr ⟨⟨q, hlt⟩, Pv (i + 1), fun σ' H' p' => ⟨kvs.length - (i + 1), by omega, rfl, hlt, p'⟩, fun x H' y => ?_⟩
    obtain ⟨T, k, v, b, hk, rfl, hT, hb, rfl⟩ := y
    exact hs i k v T b σ H hk p hT hb
  · have e : i = kvs.length := by omega
    subst e
    exact .inl ⟨⟨q, Nat.le_refl _⟩, hd σ H p⟩
end Gr
namespace Gr
open PySem L2
/-! ### [(k, v) for k, v in d.items()] -/
theorem lc_itemsT {d : Addr} {o : Obj} {kvs : List (List L2.Key × V)} {g : TG} {te : TE} {vs : List Nat} {σ : L2.St} {H1 : Hp} {D : Addr} {Qd : Hp → Prop} (Pv : Nat → Hp → Prop) (h0 : Pv 0 (upd H1 D (.lst []))) (hl : ∀ i H, i ≤ kvs.length → Pv i H → H d = some (.frz o (.dT kvs)))
    (hs : ∀ i k v T q H, kvs[i]? = some (k, v) → Pv i H → H T = none → H q = some (.tup (k.map kV)) → g (.ref T) (wipe σ vs) (upd H T (.tup [.ref q, v])) fun σ2 H2 => wipe σ2 vs = wipe σ vs ∧ te σ2 H2 fun y H4 => ∃ acc, H4 D = some (.lst acc) ∧ acc.length < sizeLine ∧ Pv (i + 1) (upd H4 D (.lst (acc ++ [y])))) (hd : ∀ H, Pv kvs.length H → Qd H) :
    ∃ W : Nat → Nat → Hp → Prop, (∃ m, W 0 m (upd H1 D (.lst []))) ∧ ∀ i m H, W i m H →
      ((ItiT d o kvs).stop i H ∧ Qd H) ∨ ((ItiT d o kvs).go i H ∧ ∃ Nx : Hp → Prop, (∀ H', Nx H' → ∃ m', m' < m ∧ W (i + 1) m' H') ∧ ∀ x H', (ItiT d o kvs).yld i H x H' → g x (wipe σ vs) H' fun σ2 H2 => wipe σ2 vs = wipe σ vs ∧ tYes σ2 H2 fun b H3 =>
        if b = true then te σ2 H3 fun y H4 => ∃ acc, H4 D = some (.lst acc) ∧ acc.length < sizeLine ∧ Nx (upd H4 D (.lst (acc ++ [y]))) else Nx H3) := by
  refine ⟨fun i m H => m = kvs.length - i ∧ i ≤ kvs.length ∧ Pv i H, ⟨kvs.length, by simp, Nat.zero_le _, h0⟩, ?_⟩
  rintro i m H ⟨rfl, hi, p⟩
  have q := hl i H hi p
  by_cases hlt : i < kvs.length
  · refine .inr ⟨⟨q, hlt⟩, Pv (i + 1), fun H' p' => ⟨kvs.length - (i + 1), by omega, rfl, hlt, p'⟩, fun x H' y => ?_⟩
    obtain ⟨T, k, v, b, hk, rfl, hT, hb, rfl⟩ := y
    exact hs i k v T b H hk p hT hb
  · have e : i = kvs.length := by omega
    subst e
    exact .inl ⟨⟨q, Nat.le_refl _⟩, hd H p⟩
/-- at v a pair of the word k and u -/
def IsP (H : Hp) (v : V) (p : List L2.Key × V) : Prop := ∃ t x, v = .ref t ∧ H t = some (.tup [.ref x, p.2]) ∧ H x = some (.tup (p.1.map kV))
theorem IsP.mono {H H' : Hp} {v : V} {p : List L2.Key × V} (h : IsP H v p) (e : Same H H') : IsP H' v p := by
  obtain ⟨t, x, rfl, h1, h2⟩ := h
  exact ⟨t, x, rfl, e _ _ h1, e _ _ h2⟩
/-- the reading of such a comprehension, under the lock, the names in slots 1 and 2 -/
theorem rd_heard {K : PySem.W.Frag} {H : Hp} {d : Addr} {od : Obj} {v0 : V} {kvs : List (List L2.Key × V)} {Q : VK} (hd : H d = some (.frz od (.dT kvs))) (hz : kvs.length ≤ 10000)
    (k : ∀ D H' vs, H D = none → Same H H' → H' D = some (.lst vs) → Paired (IsP H') vs kvs → Q (.ref D) H') : ∀ D, H D = none → ∃ W : Nat → Nat → Hp → Prop, (∃ m, W 0 m (upd H D (.lst []))) ∧ ∀ i m H, W i m H →
      ((ItiT d od kvs).stop i H ∧ Q (.ref D) H) ∨ ((ItiT d od kvs).go i H ∧ ∃ Nx : Hp → Prop, (∀ H', Nx H' → ∃ m', m' < m ∧ W (i + 1) m' H') ∧ ∀ x H', (ItiT d od kvs).yld i H x H' → (gTup K 2 (gCons (gName 1) (gCons (gName 2) gNil))) x (wipe [some v0, none, none] [1, 2]) H' fun σ2 H2 => wipe σ2 [1, 2] = wipe [some v0, none, none] [1, 2] ∧ tYes σ2 H2 fun b H3 =>
        if b = true then (tTupX (tCons (tVar 1) (tCons (tVar 2) tNil))) σ2 H3 fun y H4 => ∃ acc, H4 D = some (.lst acc) ∧ acc.length < sizeLine ∧ Nx (upd H4 D (.lst (acc ++ [y]))) else Nx H3) := by
  intro D hD
  refine lc_itemsT (fun i H' => Same H H' ∧ ∃ vs, H' D = some (.lst vs) ∧ Paired (IsP H') vs (kvs.take i)) ⟨same_new hD, [], upd_same, .nil⟩ (fun i H' _ p => p.1 d _ hd) ?_ ?_
  · rintro i ky v T q H' hk ⟨s, vs, hvs, pr⟩ hT hq
    have il : i < kvs.length := (List.getElem?_eq_some_iff.mp hk).1
    have e1 : Same H' (upd H' T (.tup [.ref q, v])) := same_new hT
    refine ⟨T, _, rfl, SqT.of upd_same, rfl, _, _, rfl, _, _, rfl, rfl, ?_⟩
    refine ⟨rfl, _, rfl, _, rfl, (by show 2 ≤ sizeLine; decide), fun t H2 e2 ht => ⟨vs, e2 _ _ (e1 _ _ hvs), ?_, ?_⟩⟩
    · have l1 : vs.length = (kvs.take i).length := Paired.length pr
      have l2 := List.length_take (i := i) (l := kvs)
      exact Nat.lt_of_le_of_lt (show vs.length ≤ 10000 by omega) (by decide)
    · have eD : ∀ b o, H2 b = some o → b ≠ D → (upd H2 D (.lst (vs ++ [.ref t]))) b = some o := fun b o h n => by
        rw [upd_ne n]
        exact h
      have e3 : Same H' H2 := e1.trans e2
      refine ⟨same_mut (s.trans e3) hD, _, upd_same, ?_⟩
      have l : kvs.take (i + 1) = kvs.take i ++ [(ky, v)] := by
        rw [List.take_add_one, hk]
        rfl
      rw [l]
      have nD : ∀ b xs, H2 b = some (.tup xs) → b ≠ D := fun b xs h z => by
        rw [z, e3 _ _ hvs] at h
        cases h
      refine pair_snoc (Paired.mapP pr fun x p h => ?_) ⟨t, q, rfl, eD _ _ ht (nD _ _ ht), eD _ _ (e3 _ _ hq) (nD _ _ (e3 _ _ hq))⟩
      obtain ⟨a, b, rfl, h1, h2⟩ := h.mono e3
      exact ⟨a, b, rfl, eD _ _ h1 (nD _ _ h1), eD _ _ h2 (nD _ _ h2)⟩
  · rintro H' ⟨s, vs, hvs, pr⟩
    rw [List.take_length] at pr
    exact k D H' vs hD s hvs pr
section
variable {P : Program} {w : World} {K : PySem.W.Frag} {mg : Str → Option Value} {base : Heap} {CB CA CC : Addr}
def IsPairs (H : Hp) (p : Addr) (kvs : List (List L2.Key × V)) : Prop := ∃ vs, H p = some (.lst vs) ∧ Paired (IsP H) vs kvs
def spBookHeard (CB : Addr) : Sp := fun vs H Q _ => ∃ (b d : Addr) (L : Nat) (bk : Bk), vs = [.ref b] ∧ BookAt CB H b d L bk ∧ bk.length ≤ 10000 ∧ ∀ p H', H p = none → Same H H' → IsPairs H' p (kvB bk) → Q (.ref p) H'
theorem ok_Book_heard (T : Txt K mg CB CA CC) : GoodM P w K mg base 1 CB "heard" ["self"] (spBookHeard CB) := by
  refine T.Book_heard.good sc_Book_heard (fun vs H Q E h => ?_) (fun f cdv A outer s H vs Q E hr h => ?_)
  · obtain ⟨b, d, L, bk, rfl, _⟩ := h
    rfl
  · obtain ⟨b, d, L, bk, rfl, ⟨⟨dx, hb⟩, hd⟩, hz, k⟩ := h
    have hu := hu_of hr
    refine ⟨_, 
      (pss_one (ps_ret (pe_lock (pe_lc (own := [("word", 1), ("mark", 2)]) (g := gTup K 2 (gCons (gName 1) (gCons (gName 2) gNil))) (by rfl) sc_Book_heard.nd (pi_itemsT (pe_fldX (pv 0) rfl)) (blkOk_by (own := [("word", 1), ("mark", 2)]) (N := ["self", "word", "mark"]) (sc := defScope s_Book_heard) (by decide +kernel)) (fun _ _ _ _ _ => (pg_tup rfl (pgs_cons (pg_name (i := 1) sc_Book_heard.nd rfl (Or.inl rfl)) (pgs_cons (pg_name (i := 2) sc_Book_heard.nd rfl (Or.inl rfl)) pgs_nil)))) (fun _ _ _ _ _ => pts_nil) (fun _ _ _ _ _ => (pe_tupX (pa_cons (pv 1) (pa_cons (pv 2) pa_nil)))))))), ?_⟩
    refine ⟨d, _, hd, trivial, fun od => ?_⟩
    have nbd : b ≠ d := ne_of hb hd (fun z => nomatch z)
    refine ⟨_, rfl, rd_fld (by rw [upd_ne nbd]; exact hb) T.c_CB T.n_CB_marks (zip_lookup nm_marks rfl rfl) ⟨d, od, _, rfl, upd_same, ?_⟩⟩
    refine rd_heard (Q := fun v H' => H' d = some (.frz od (.dT (kvB bk))) ∧ Q v (upd H' d (.dT (kvB bk)))) (kvs := kvB bk) (v0 := .ref b) upd_same (by unfold kvB; rw [List.length_map]; exact hz) fun D H' vs hD s hvs pr => ⟨s _ _ upd_same, ?_⟩
    have nDd : D ≠ d := fun z => by
      rw [z, upd_same] at hD
      cases hD
    have tx : ∀ b xs, H' b = some (.tup xs) → (upd H' d (.dT (kvB bk))) b = some (.tup xs) := fun b xs h => by
      rw [upd_ne (fun z => by rw [z, s _ _ upd_same] at h; cases h)]
      exact h
    refine k D _ (by rw [upd_ne nDd] at hD; exact hD) (fun c o hc => ?_) ⟨vs, by rw [upd_ne nDd]; exact hvs, Paired.mapP pr fun x p h => ?_⟩
    · by_cases e : c = d
      · rw [e, upd_same]
        rw [e, hd] at hc
        exact hc
      · rw [upd_ne e]
        exact s c o (by rw [upd_ne e]; exact hc)
    · obtain ⟨t, x, rfl, h1, h2⟩ := h
      exact ⟨t, x, rfl, tx _ _ h1, tx _ _ h2⟩

theorem told_app (bk : Bk) (u : Wd) (m : Nat) (h : told bk u = none) : putK (kvB bk) (keyW u) (nv m) = kvB (bk ++ [(u, m)]) := by
  rw [putK_new _ (by rw [valV_kvB, h]; rfl)]
  unfold kvB
  rw [List.map_append]
  rfl
def spBookPut (CB : Addr) : Sp := fun vs H Q _ => ∃ (b d : Addr) (L m : Nat) (bk : Bk) (v : V) (u : Wd), vs = [.ref b, v, nv m] ∧ BookAt CB H b d L bk ∧ IsW H v u ∧ (∀ x ∈ u, x < L) ∧ m ≤ 1 ∧ told bk u = none ∧ bk.length ≤ 1000 ∧
  ∀ H', BookAt CB H' b d L (bk ++ [(u, m)]) → (∀ c o, H c = some o → c ≠ d → H' c = some o) → Q .non H'
theorem ok_Book_put (T : Txt K mg CB CA CC) : GoodM P w K mg base 3 CB "put" ["self", "word", "mark"] (spBookPut CB) := by
  refine T.Book_put.good sc_Book_put (fun vs H Q E h => ?_) (fun f cdv A outer s H vs Q E hr h => ?_)
  · obtain ⟨b, d, L, m, bk, v, u, rfl, _⟩ := h
    rfl
  · obtain ⟨b, d, L, m, bk, v, u, rfl, ⟨⟨dx, hb⟩, hd⟩, hv, hl, hm, hn, hz, k⟩ := h
    have hu := hu_of hr
    refine ⟨_, 
      (pss_cons (ps_expr (pe_callG (ok_look_at T) (hr.mono (by decide)) rfl (pa_cons (pe_fldX (pv 0) rfl) (pa_cons (pv 1) (pa_cons (pv 2) pa_nil)))))
      (pss_cons (ps_set (i := 3) sc_Book_put.nd rfl (Or.inl rfl) (pe_dget1 hu (pe_fldX (pv 0) rfl) (pv 1) ⟨rfl, rfl, rfl, rfl⟩))
      (pss_cons (ps_if (PW.pt (pw_and (pt_cmpR op_notN (pv 3) pe_non (nomark _)) (pw_and1 (pt_cmpR op_ne (pv 3) (pv 2) (nomark _))))) pss_never pss_nil)
      (pss_one (ps_dput hu (pe_fldX (pv 0) rfl) (pv 1) (pv 2) rfl))))), ?_⟩
    refine ⟨_, rfl, rd_fld hb T.c_CB T.n_CB_letters (zip_lookup nm_letters rfl rfl) ⟨_, rfl, _, rfl, L, m, v, u, rfl, hv, hl, hm, ?_⟩⟩
    refine ⟨_, rfl, rd_fld hb T.c_CB T.n_CB_marks (zip_lookup nm_marks rfl rfl) ⟨d, rfl, .inr ⟨_, .inl hd⟩, _, rfl, _, hv.dget hd, ?_⟩⟩
    rw [valV_kvB, hn]
    refine ⟨_, rfl, rfl, _, rfl, iteF ?_⟩
    obtain ⟨a, rfl, ha⟩ := id hv
    refine ⟨_, rfl, _, rfl, rd_fld hb T.c_CB T.n_CB_marks (zip_lookup nm_marks rfl rfl) ⟨_, rfl, d, _, rfl, DPut.t (k := keyW u) hd (by rw [keyW_tw]; exact ha) ?_, ?_⟩⟩
    · unfold kvB
      rw [List.length_map]
      exact Nat.lt_of_le_of_lt hz (by decide)
    · have nbd : b ≠ d := ne_of hb hd (fun z => nomatch z)
      refine k _ ⟨⟨dx, by rw [upd_ne nbd]; exact hb⟩, ?_⟩ fun c o hc n => by rw [upd_ne n]; exact hc
      rw [upd_same, told_app _ _ _ hn]
end
end Gr
namespace Gr
open PySem L2
theorem find_at {α : Type} {p : α → Bool} : ∀ {xs : List α} {i : Nat} {x : α}, (xs.take i).find? p = none → xs[i]? = some x → p x = true → xs.find? p = some x
  | [], i, x, _, h, _ => by simp at h
  | y :: ys, 0, x, _, h, hp => by
    simp at h
    subst h
    rw [List.find?_cons, hp]
  | y :: ys, i + 1, x, h0, h, hp => by
    rw [List.take_succ_cons, List.find?_cons] at h0
    cases hy : p y with
    | true => rw [hy] at h0; cases h0
    | false =>
      rw [hy] at h0
      rw [List.find?_cons, hy]
      exact find_at h0 (by simpa using h) hp
theorem find_step {α : Type} {p : α → Bool} {xs : List α} {i : Nat} {x : α} (h0 : (xs.take i).find? p = none) (h : xs[i]? = some x) (hp : p x = false) : (xs.take (i + 1)).find? p = none := by
  rw [List.take_add_one, h, List.find?_append, h0]
  simp [hp]
def IsOW (H : Hp) (v : V) : Option Wd → Prop
  | none => v = .non
  | some u => IsW H v u
theorem BookAt.mono {CB : Addr} {H H' : Hp} {b d : Addr} {L : Nat} {bk : Bk} (h : BookAt CB H b d L bk) (e : Same H H') : BookAt CB H' b d L bk :=
  ⟨let ⟨dx, q⟩ := h.ob; ⟨dx, e _ _ q⟩, e _ _ h.dc⟩
def isN (bk : Bk) (u : Wd) : Bool := decide (told bk u = none)
def gapF (bk : Bk) (L : Nat) (acc : List Wd) : Option Wd := (rowsF L acc).find? (isN bk)
theorem oV_non (o : Option Nat) : decide (oV o = .non) = decide (o = none) := by cases o <;> rfl
theorem rows_mem_len {L : Nat} {acc : List Wd} {n : Nat} (h : ∀ u ∈ acc, u.length ≤ n) : ∀ u ∈ rowsF L acc, u.length ≤ n + 1 := by
  have st : ∀ (u : Wd), u.length ≤ n → ∀ (ls : List Nat) (rows : List Wd), (∀ x ∈ rows, x.length ≤ n + 1) → ∀ x ∈ ls.foldl (rowsStep u) rows, x.length ≤ n + 1 := by
    intro u hu ls
    induction ls with
    | nil => exact fun rows h => h
    | cons l ls ih =>
      intro rows hr
      refine ih _ fun x hx => ?_
      unfold rowsStep at hx
      split at hx
      · exact hr x hx
      · rcases List.mem_append.mp hx with q | q
        · exact hr x q
        · rw [List.mem_singleton.mp q]
          simp
          omega
  have all : ∀ (us rows : List Wd), (∀ u ∈ us, u.length ≤ n) → (∀ x ∈ rows, x.length ≤ n + 1) → ∀ x ∈ us.foldl (rowsIn L) rows, x.length ≤ n + 1 := by
    intro us
    induction us with
    | nil => exact fun rows _ h => h
    | cons u us ih =>
      intro rows hu hr
      exact ih _ (fun x hx => hu x (by simp [hx])) (st u (hu u (by simp)) _ _ hr)
  exact all acc acc h fun x hx => Nat.le_succ_of_le (h x hx)
section
variable {P : Program} {w : World} {K : PySem.W.Frag} {mg : Str → Option Value} {base : Heap} {CB CA CC : Addr}
/-- what the functions of a table are handed: the telling words are the one empty word -/
structure TabAt (CB : Addr) (H : Hp) (b d a e : Addr) (L : Nat) (bk : Bk) (acc : List Wd) : Prop where
  bo : BookAt CB H b d L bk
  ac : IsL2 H a acc
  en : IsL2 H e [[]]
  lL : L ≤ 4
  few : acc.length ≤ 2
  short : ∀ u ∈ acc, u.length ≤ 100
theorem TabAt.mono {CB : Addr} {H H' : Hp} {b d a e : Addr} {L : Nat} {bk : Bk} {acc : List Wd} (h : TabAt CB H b d a e L bk acc) (s : Same H H') : TabAt CB H' b d a e L bk acc :=
  ⟨h.bo.mono s, h.ac.mono s, h.en.mono s, h.lL, h.few, h.short⟩
def spGap (CB : Addr) : Sp := fun vs H Q _ => ∃ (b d a e : Addr) (L : Nat) (bk : Bk) (acc : List Wd), vs = [.ref b, nv L, .ref a, .ref e] ∧ TabAt CB H b d a e L bk acc ∧
  ∀ v H', Same H H' → IsOW H' v (gapF bk L acc) → Q v H'
theorem ok_gap (T : Txt K mg CB CA CC) : Good P w K mg base 2 "gap" ["book", "letters", "access", "ends"] (spGap CB) := by
  refine T.gap.good sc_gap (fun vs H Q E h => ?_) (fun f cdv A outer s H vs Q E hr h => ?_)
  · obtain ⟨b, d, a, e, L, bk, acc, rfl, _⟩ := h
    rfl
  · obtain ⟨b, d, a, e, L, bk, acc, rfl, t, k⟩ := h
    refine ⟨_, 
      (pss_cons (ps_for PassesOwn.never rfl (pi_list (pe_callG (ok_rows_of T) (hr.mono (by decide)) rfl (pa_cons (pv 1) (pa_cons (pv 2) pa_nil)))) (pg_name (i := 4) sc_gap.nd rfl (Or.inl rfl)) 
        (pss_one (ps_for PassesOwn.never rfl (pi_list (pv 3)) (pg_name (i := 5) sc_gap.nd rfl (Or.inl rfl)) 
          (pss_one (ps_if (pt_cmpR op_isN (pe_methG (ok_Book_told T) (hr.mono (by decide)) (pv 0) (pa_cons (pe_op op_catX (pv 4) (pv 5)) pa_nil)) pe_non (nomark _)) 
            (pss_one (ps_ret (pe_op op_catX (pv 4) (pv 5)))) pss_nil)))))
      (pss_one (ps_ret pe_non))), ?_⟩
    refine ⟨_, rfl, _, rfl, L, a, acc, rfl, t.ac, t.lL, t.few, t.short, fun p H1 hp s1 hrows => ?_⟩
    obtain ⟨xs, hxs, pr⟩ := id hrows
    have lx : xs.length = (rowsF L acc).length := Paired.length pr
    obtain ⟨es, hes, pe⟩ := id t.en
    refine ⟨p, rfl, ⟨_, SqL.of hxs⟩, for_list (K := K) (a := p) (xs := xs) (fun i σ H' => Same H1 H' ∧ ((rowsF L acc).take i).find? (isN bk) = none ∧ ∃ x4 x5, σ = [some (.ref b), some (nv L), some (.ref a), some (.ref e), x4, x5])
      ⟨Same.refl _, rfl, none, none, rfl⟩ (fun i σ H' _ q => SqL.of (q.1 _ _ hxs)) ?_ ?_⟩
    · rintro i x σ H2 hx ⟨s2, hf, x4, x5, rfl⟩
      obtain ⟨u, hu, hxu⟩ := pair_get' pr hx
      have hul := rows_mem_len t.short u (List.mem_of_getElem? hu)
      have s12 := s1.trans s2
      refine ⟨_, rfl, e, rfl, ⟨_, SqL.of (s12 _ _ hes)⟩, for_list (K := K) (a := e) (xs := es) (fun j σ H' => Same H1 H' ∧ (0 < j → isN bk u = false) ∧ ∃ x5, σ = [some (.ref b), some (nv L), some (.ref a), some (.ref e), some x, x5])
        ⟨s2, fun z => absurd z (by omega), _, rfl⟩ (fun i σ H' _ q => SqL.of ((s1.trans q.1) _ _ hes)) ?_ ?_⟩
      · rintro j y σ H3 hy ⟨s3, _, x5', rfl⟩
        obtain ⟨z, hz, hyz⟩ := pair_get' pe hy
        obtain rfl : z = [] := by
          have := List.mem_of_getElem? hz
          simpa using this
        have s13 := s1.trans s3
        obtain ⟨dx, hb⟩ := (t.bo.mono s13).ob
        refine ⟨_, rfl, b, dx, _, rfl, hb, zip_lookup_none (by decide +kernel), _, rfl, _, rfl, rd_cat (hxu.mono s3) (hyz.mono s13) (by simp; omega) fun v H4 e4 hv => ?_⟩
        rw [List.append_nil] at hv
        refine ⟨b, d, L, bk, v, u, rfl, (t.bo.mono s13).mono e4, hv, rfl, _, rfl, ?_⟩
        rw [oV_non]
        cases hn : isN bk u with
        | true =>
          have hn' : decide (told bk u = none) = true := hn
          rw [hn']
          refine iteT ⟨_, rfl, _, rfl, rd_cat ((hxu.mono s3).mono e4) ((hyz.mono s13).mono e4) (by simp; omega) fun v2 H5 e5 hv2 => ?_⟩
          rw [List.append_nil] at hv2
          refine k v2 H5 (s13.trans (e4.trans e5)) ?_
          rw [gapF, find_at hf hu hn]
          exact hv2
        | false =>
          have hn' : decide (told bk u = none) = false := hn
          rw [hn']
          exact iteF ⟨s3.trans e4, fun _ => rfl, _, rfl⟩
      · rintro σ H3 ⟨s3, hn, x5', rfl⟩
        have le : es.length = 1 := Paired.length pe
        exact ⟨s3, find_step hf hu (hn (by omega)), _, _, rfl⟩
    · rintro σ H2 ⟨s2, hf, x4, x5, rfl⟩
      refine k _ H2 (s1.trans s2) ?_
      rw [lx, List.take_length] at hf
      rw [gapF, hf]
      rfl
end
end Gr
namespace Gr
open PySem L2
/-! ### houses, walked -/
def stepH (h : Hs) (r l : Nat) : Nat := (h.ways.getD r []).getD l 0
def runH (h : Hs) (r : Nat) (u : Wd) : Nat := u.foldl (stepH h) r
def markH (h : Hs) (u : Wd) : Nat := h.marks.getD (runH h 0 u) 0
structure HsOk (h : Hs) : Prop where
  rows : h.ways.length = h.marks.length
  pos : 0 < h.marks.length
  two : h.marks.length ≤ 2
  row : ∀ y ∈ h.ways, y.length = h.L ∧ ∀ x ∈ y, x < h.marks.length
  bits : ∀ m ∈ h.marks, m ≤ 1
  few : h.L ≤ 4
theorem HsOk.step {h : Hs} (o : HsOk h) {r l : Nat} (hr : r < h.marks.length) (hl : l < h.L) : ∃ y, h.ways[r]? = some y ∧ y[l]? = some (stepH h r l) ∧ stepH h r l < h.marks.length := by
  have h1 : r < h.ways.length := by rw [o.rows]; exact hr
  have hy := o.row h.ways[r] (List.getElem_mem h1)
  have h2 : l < h.ways[r].length := by rw [hy.1]; exact hl
  have e : stepH h r l = h.ways[r][l] := by simp [stepH, List.getD, List.getElem?_eq_getElem h1, List.getElem?_eq_getElem h2]
  refine ⟨h.ways[r], List.getElem?_eq_getElem h1, ?_, ?_⟩
  · rw [e]
    exact List.getElem?_eq_getElem h2
  · rw [e]
    exact hy.2 _ (List.getElem_mem h2)
theorem HsOk.run {h : Hs} (o : HsOk h) : ∀ {u : Wd} {r : Nat}, r < h.marks.length → (∀ x ∈ u, x < h.L) → runH h r u < h.marks.length
  | [], _, hr, _ => hr
  | x :: u, r, hr, hu => by
    obtain ⟨_, _, _, h1⟩ := o.step hr (hu x (by simp))
    exact HsOk.run o (u := u) h1 fun z hz => hu z (by simp [hz])
theorem HsOk.markGet {h : Hs} (o : HsOk h) {r : Nat} (hr : r < h.marks.length) : h.marks[r]? = some (h.marks.getD r 0) := by
  simp [List.getD, List.getElem?_eq_getElem hr]
theorem runH_take {h : Hs} {u : Wd} {i x : Nat} (e : u[i]? = some x) : runH h 0 (u.take (i + 1)) = stepH h (runH h 0 (u.take i)) x := by
  unfold runH
  rw [List.take_add_one, e, List.foldl_append]
  rfl
section
variable {P : Program} {w : World} {K : PySem.W.Frag} {mg : Str → Option Value} {base : Heap} {CB CA CC : Addr}
def spTrail : Sp := fun vs H Q _ => ∃ (a v : V) (h : Hs) (u : Wd), vs = [a, v] ∧ IsH H a h ∧ HsOk h ∧ IsW H v u ∧ (∀ x ∈ u, x < h.L) ∧ u.length ≤ 1000 ∧
  ∀ p H' pre, H p = none → Same H H' → H' p = some (.lst (pre ++ [nv (runH h 0 u)])) → Q (.ref p) H'
theorem ok_trail (T : Txt K mg CB CA CC) : Good P w K mg base 2 "trail" ["house", "word"] spTrail := by
  refine T.trail.good sc_trail (fun vs H Q E h => ?_) (fun f cdv A outer s H vs Q E hr h => ?_)
  · obtain ⟨a, v, h, u, rfl, _⟩ := h
    rfl
  · obtain ⟨a, v, h, u, rfl, hh, ho, hv, hl, hz, k⟩ := h
    refine ⟨_, 
      (pss_cons (ps_if (pt_not (pt_val (pe_callG (ok_is_word T) (hr.mono (by decide)) rfl (pa_cons (pe_ixTC (pv 0)) (pa_cons (pv 1) pa_nil))))) pss_never pss_nil)
      (pss_cons (ps_set (i := 2) sc_trail.nd rfl (Or.inl rfl) (pe_lst (pa_cons pe_int pa_nil)))
      (pss_cons (ps_for PassesOwn.never rfl (pi_tup (pv 1)) (pg_name (i := 3) sc_trail.nd rfl (Or.inl rfl)) 
        (pss_one (ps_expr (pe_bm PySem.F.plainAttrs_list PySem.F.slot_list_append PySem.F.type_list_append mt_append (pv 2) (pa_cons (pe_ix ix_tup (pe_ix ix_tup (pe_ixTC (pv 0)) (pe_ix ix_list (pv 2) (pe_un un_neg pe_int) (fun _ _ => rfl)) (fun _ _ => rfl)) (pv 3) (fun _ _ => rfl)) pa_nil)))))
      (pss_one (ps_ret (pv 2)))))), ?_⟩
    refine ⟨_, rfl, rd_h0 hh ⟨_, rfl, h.L, v, u, rfl, hv, hl, _, rfl, iteF ?_⟩⟩
    refine ⟨by show 1 ≤ sizeLine; decide, fun p hp => ?_⟩
    obtain ⟨b, rfl, hb⟩ := id hv
    refine ⟨_, rfl, b, rfl, ⟨_, SqT.of (same_new hp _ _ hb)⟩, for_tup (K := K) (a := b) (xs := tw u) (fun i σ H' => Same H H' ∧ ∃ pre x, σ = [some a, some (.ref b), some (.ref p), x] ∧ H' p = some (.lst (pre ++ [nv (runH h 0 (u.take i))])) ∧ pre.length = i)
      ⟨same_new hp, [], none, rfl, upd_same, rfl⟩ (fun i σ H' _ q => SqT.of (q.1 _ _ hb)) ?_ ?_⟩
    · rintro i x σ H' hx ⟨sm, pre, y, rfl, hp', el⟩
      obtain ⟨z, hz', rfl⟩ := tw_inv hx
      have il : i < u.length := (List.getElem?_eq_some_iff.mp hz').1
      have hzL := hl z (List.mem_of_getElem? hz')
      have hr0 : runH h 0 (u.take i) < h.marks.length := ho.run ho.pos fun x hx => hl x (List.mem_of_mem_take hx)
      obtain ⟨y, hy, hyl, hlt⟩ := ho.step hr0 hzL
      refine ⟨_, rfl, .inl ⟨rfl, _, SqL.of hp'⟩, _, rfl, rd_h2 (hh.mono sm) fun yv hyv => ⟨_, rfl, _, rfl, rd_last hp' (rd_t2 hyv hy fun rv hrv => ⟨_, rfl, rd_w hrv hyl ⟨p, _, _, rfl, rfl, hp', ?_, ?_⟩⟩)⟩⟩
      · rw [List.length_append, el]
        exact Nat.lt_of_lt_of_le (show i + 1 < 2000 by omega) (by decide)
      · refine ⟨same_mut sm hp, pre ++ [nv (runH h 0 (u.take i))], _, rfl, ?_, ?_⟩
        · rw [upd_same, runH_take hz']
        · rw [List.length_append, el]
          rfl
    · rintro σ H' ⟨sm, pre, y, rfl, hp', el⟩
      rw [tw_len, List.take_length] at hp'
      exact ⟨_, rfl, k p H' pre hp sm hp'⟩

def spRoomBehind : Sp := fun vs H Q _ => ∃ (a v : V) (h : Hs) (u : Wd), vs = [a, v] ∧ IsH H a h ∧ HsOk h ∧ IsW H v u ∧ (∀ x ∈ u, x < h.L) ∧ u.length ≤ 1000 ∧ ∀ H', Same H H' → Q (nv (runH h 0 u)) H'
theorem ok_room_behind (T : Txt K mg CB CA CC) : Good P w K mg base 3 "room_behind" ["house", "word"] spRoomBehind := by
  refine T.room_behind.good sc_room_behind (fun vs H Q E h => ?_) (fun f cdv A outer s H vs Q E hr h => ?_)
  · obtain ⟨a, v, h, u, rfl, _⟩ := h
    rfl
  · obtain ⟨a, v, h, u, rfl, hh, ho, hv, hl, hz, k⟩ := h
    refine ⟨_, 
      (pss_one (ps_ret (pe_ix ix_list (pe_callG (ok_trail T) (hr.mono (by decide)) rfl (pa_cons (pv 0) (pa_cons (pv 1) pa_nil))) (pe_un un_neg pe_int) (fun _ _ => rfl)))), ?_⟩
    exact ⟨_, rfl, _, rfl, a, v, h, u, rfl, hh, ho, hv, hl, hz, fun p H' pre hp sm hp' => ⟨_, rfl, rd_last hp' (k H' sm)⟩⟩

def spMarkBehind : Sp := fun vs H Q _ => ∃ (a v : V) (h : Hs) (u : Wd), vs = [a, v] ∧ IsH H a h ∧ HsOk h ∧ IsW H v u ∧ (∀ x ∈ u, x < h.L) ∧ u.length ≤ 1000 ∧ ∀ H', Same H H' → Q (nv (markH h u)) H'
theorem ok_mark_behind (T : Txt K mg CB CA CC) : Good P w K mg base 4 "mark_behind" ["house", "word"] spMarkBehind := by
  refine T.mark_behind.good sc_mark_behind (fun vs H Q E h => ?_) (fun f cdv A outer s H vs Q E hr h => ?_)
  · obtain ⟨a, v, h, u, rfl, _⟩ := h
    rfl
  · obtain ⟨a, v, h, u, rfl, hh, ho, hv, hl, hz, k⟩ := h
    refine ⟨_, 
      (pss_one (ps_ret (pe_ix ix_tup (pe_ixTC (pv 0)) (pe_callG (ok_room_behind T) (hr.mono (by decide)) rfl (pa_cons (pv 0) (pa_cons (pv 1) pa_nil))) (fun _ _ => rfl)))), ?_⟩
    refine ⟨_, rfl, rd_h1 hh fun mv hmv => ⟨_, rfl, _, rfl, a, v, h, u, rfl, hh, ho, hv, hl, hz, fun H' sm => ?_⟩⟩
    exact rd_w (hmv.mono sm) (ho.markGet (ho.run ho.pos hl)) (k H' sm)
end
end Gr
namespace Gr
open PySem L2
def placeF (bk : Bk) (acc : List Wd) (o : Option Nat) : Option Nat := acc.findIdx? fun u => decide (told bk u = o)
def pV : Option Nat → V
  | some k => nv k
  | none => .int (-1)
def noPlace (bk : Bk) (acc : List Wd) (u : Wd) : Bool := decide (placeF bk acc (told bk u) = none)
def strangerF (bk : Bk) (L : Nat) (acc : List Wd) : Option Wd := (rowsF L acc).find? (noPlace bk acc)
theorem findIdx_at {α : Type} {p : α → Bool} : ∀ {xs : List α} {i : Nat} {x : α}, (xs.take i).find? p = none → xs[i]? = some x → p x = true → xs.findIdx? p = some i
  | [], i, x, _, h, _ => by simp at h
  | y :: ys, 0, x, _, h, hp => by
    simp at h
    subst h
    rw [List.findIdx?_cons, hp]
    rfl
  | y :: ys, i + 1, x, h0, h, hp => by
    rw [List.take_succ_cons, List.find?_cons] at h0
    cases hy : p y with
    | true => rw [hy] at h0; cases h0
    | false =>
      rw [hy] at h0
      rw [List.findIdx?_cons, hy, findIdx_at h0 (by simpa using h) hp]
      rfl
theorem findIdx_none {α : Type} {p : α → Bool} {xs : List α} (h : xs.find? p = none) : xs.findIdx? p = none := by
  rw [List.findIdx?_eq_none_iff]
  intro x hx
  have := List.find?_eq_none.mp h x hx
  simpa using this
section
variable {P : Program} {w : World} {K : PySem.W.Frag} {mg : Str → Option Value} {base : Heap} {CB CA CC : Addr}
def spMarksOf (CB : Addr) : Sp := fun vs H Q _ => ∃ (b d e : Addr) (L : Nat) (bk : Bk) (v : V) (u : Wd), vs = [.ref b, v, .ref e] ∧ BookAt CB H b d L bk ∧ IsW H v u ∧ u.length ≤ 200 ∧ IsL2 H e [[]] ∧
  ∀ p H', H p = none → Same H H' → H' p = some (.lst ([told bk u].map oV)) → Q (.ref p) H'
theorem ok_marks_of (T : Txt K mg CB CA CC) : Good P w K mg base 2 "marks_of" ["book", "word", "ends"] (spMarksOf CB) := by
  refine T.marks_of.good sc_marks_of (fun vs H Q E h => ?_) (fun f cdv A outer s H vs Q E hr h => ?_)
  · obtain ⟨b, d, e, L, bk, v, u, rfl, _⟩ := h
    rfl
  · obtain ⟨b, d, e, L, bk, v, u, rfl, hb, hv, hz, ⟨es, hes, pe⟩, k⟩ := h
    refine ⟨_, 
      (pss_one (ps_ret (pe_lc (own := [("end", 3)]) (g := gName 3) (by rfl) sc_marks_of.nd (pi_list (pv 2)) (blkOk_by (own := [("end", 3)]) (N := ["book", "word", "ends", "end"]) (sc := defScope s_marks_of) (by decide +kernel)) (fun _ _ _ _ _ => pg_name (i := 3) sc_marks_of.nd rfl (Or.inl rfl)) (fun _ _ _ _ _ => pts_nil) (fun _ _ _ _ _ => (pe_methG (ok_Book_told T) (hr.mono (by decide)) (pv 0) (pa_cons (pe_op op_catX (pv 1) (pv 3)) pa_nil)))))), ?_⟩
    have le : es.length = 1 := Paired.length pe
    refine ⟨_, rfl, e, rfl, ⟨_, SqL.of hes⟩, fun D hD => lc_listX (K := K) (a := e) (xs := es) (fun i H' => Same H H' ∧ H' D = some (.lst ((List.replicate i (told bk u)).map oV)))
      ⟨same_new hD, upd_same⟩ (fun i H' _ q => SqL.of (q.1 _ _ hes)) ?_ ?_⟩
    · rintro i y H1 hy ⟨s1, hD1⟩
      obtain ⟨z, hz', hyz⟩ := pair_get' pe hy
      obtain rfl : z = [] := by
        have := List.mem_of_getElem? hz'
        simpa using this
      have il := (List.getElem?_eq_some_iff.mp hy).1
      obtain ⟨dx, hbo⟩ := (hb.mono s1).ob
      refine ⟨rfl, _, rfl, b, dx, _, rfl, hbo, zip_lookup_none (by decide +kernel), _, rfl, _, rfl, rd_cat (hv.mono s1) (hyz.mono s1) (by simp; omega) fun x H2 e2 hx => ?_⟩
      rw [List.append_nil] at hx
      refine ⟨b, d, L, bk, x, u, rfl, (hb.mono s1).mono e2, hx, _, e2 _ _ hD1, ?_, same_mut (s1.trans e2) hD, ?_⟩
      · rw [List.length_map, List.length_replicate]
        exact Nat.lt_of_lt_of_le (show i < 2 by omega) (by decide)
      · rw [upd_same, List.replicate_succ', List.map_append]
        rfl
    · rintro H1 ⟨s1, hD1⟩
      rw [le] at hD1
      exact k D H1 hD s1 hD1

def spPlaceLike (CB : Addr) : Sp := fun vs H Q _ => ∃ (b d a e m : Addr) (L : Nat) (bk : Bk) (acc : List Wd) (o : Option Nat), vs = [.ref b, .ref a, .ref e, .ref m] ∧ TabAt CB H b d a e L bk acc ∧ H m = some (.lst ([o].map oV)) ∧
  ∀ H', Same H H' → Q (pV (placeF bk acc o)) H'
theorem ok_place_like (T : Txt K mg CB CA CC) : Good P w K mg base 3 "place_like" ["book", "access", "ends", "marks"] (spPlaceLike CB) := by
  refine T.place_like.good sc_place_like (fun vs H Q E h => ?_) (fun f cdv A outer s H vs Q E hr h => ?_)
  · obtain ⟨b, d, a, e, m, L, bk, acc, o, rfl, _⟩ := h
    rfl
  · obtain ⟨b, d, a, e, m, L, bk, acc, o, rfl, t, hm, k⟩ := h
    refine ⟨_, 
      (pss_cons (ps_for PassesOwn.never rfl (pi_range1 (by rfl) T.no_range (pa_cons (pe_callB call_len_seq (by rfl) T.no_len PySem.boot_len (pa_cons (pv 1) pa_nil)) pa_nil)) (pg_name (i := 4) sc_place_like.nd rfl (Or.inl rfl)) 
        (pss_one (ps_if (pt_cmpR (op_eqD hr.units) (pe_callG (ok_marks_of T) (hr.mono (by decide)) rfl (pa_cons (pv 0) (pa_cons (pe_ix ix_list (pv 1) (pv 4) (fun _ _ => rfl)) (pa_cons (pv 2) pa_nil)))) (pv 3) (nomark _)) 
          (pss_one (ps_ret (pv 4))) pss_nil)))
      (pss_one (ps_ret (pe_un un_neg pe_int)))), ?_⟩
    obtain ⟨xs, ha, pr⟩ := id t.ac
    have lx : xs.length = acc.length := Paired.length pr
    have few := t.few
    refine ⟨_, rfl, a, _, rfl, .inl (SqL.of ha), _, rfl, by omega, by omega, for_range (lo := 0) (n := xs.length) (fun i σ H' => Same H H' ∧ (acc.take i).find? (fun u => decide (told bk u = o)) = none ∧ ∃ x4, σ = [some (.ref b), some (.ref a), some (.ref e), some (.ref m), x4])
      ⟨Same.refl _, rfl, none, rfl⟩ ?_ ?_⟩
    · rintro i σ H1 hi ⟨s1, hf, x4, rfl⟩
      have e0 : (0 : Int) + (i : Int) = ((i : Nat) : Int) := Int.zero_add _
      rw [e0]
      obtain ⟨u, hu⟩ : ∃ u, acc[i]? = some u := ⟨acc[i]'(by omega), List.getElem?_eq_getElem (by omega)⟩
      have hul := t.short u (List.mem_of_getElem? hu)
      refine ⟨_, rfl, _, rfl, _, rfl, rd_l2 (t.ac.mono s1) hu fun x hx => ⟨_, rfl, b, d, e, L, bk, x, u, rfl, t.bo.mono s1, hx, by omega, t.en.mono s1, fun p H2 hp s2 hp2 => ?_⟩⟩
      refine ⟨_, rfl, rd_eqM hp2 (s2 _ _ (s1 _ _ hm)) ⟨_, rfl, ?_⟩⟩
      have eq : decide ([told bk u] = [o]) = decide (told bk u = o) := by
        rw [Bool.eq_iff_iff]
        simp
      rw [eq]
      by_cases h : told bk u = o
      · rw [decide_eq_true h]
        refine iteT ⟨_, rfl, ?_⟩
        have := k H2 (s1.trans s2)
        rw [placeF, findIdx_at hf hu (decide_eq_true h)] at this
        exact this
      · rw [decide_eq_false h]
        exact iteF ⟨s1.trans s2, find_step hf hu (decide_eq_false h), _, rfl⟩
    · rintro σ H1 ⟨s1, hf, x4, rfl⟩
      rw [lx, List.take_length] at hf
      have := k H1 s1
      rw [placeF, findIdx_none hf] at this
      exact ⟨_, rfl, this⟩

def spStranger (CB : Addr) : Sp := fun vs H Q _ => ∃ (b d a e : Addr) (L : Nat) (bk : Bk) (acc : List Wd), vs = [.ref b, nv L, .ref a, .ref e] ∧ TabAt CB H b d a e L bk acc ∧
  ∀ v H', Same H H' → IsOW H' v (strangerF bk L acc) → Q v H'
theorem ok_stranger (T : Txt K mg CB CA CC) : Good P w K mg base 4 "stranger" ["book", "letters", "access", "ends"] (spStranger CB) := by
  refine T.stranger.good sc_stranger (fun vs H Q E h => ?_) (fun f cdv A outer s H vs Q E hr h => ?_)
  · obtain ⟨b, d, a, e, L, bk, acc, rfl, _⟩ := h
    rfl
  · obtain ⟨b, d, a, e, L, bk, acc, rfl, t, k⟩ := h
    refine ⟨_, 
      (pss_cons (ps_for PassesOwn.never rfl (pi_list (pe_callG (ok_rows_of T) (hr.mono (by decide)) rfl (pa_cons (pv 1) (pa_cons (pv 2) pa_nil)))) (pg_name (i := 4) sc_stranger.nd rfl (Or.inl rfl)) 
        (pss_one (ps_if (pt_cmpR op_lt (pe_callG (ok_place_like T) (hr.mono (by decide)) rfl (pa_cons (pv 0) (pa_cons (pv 2) (pa_cons (pv 3) (pa_cons (pe_callG (ok_marks_of T) (hr.mono (by decide)) rfl (pa_cons (pv 0) (pa_cons (pv 4) (pa_cons (pv 3) pa_nil)))) pa_nil))))) pe_int (nomark _)) 
          (pss_one (ps_ret (pv 4))) pss_nil)))
      (pss_one (ps_ret pe_non))), ?_⟩
    refine ⟨_, rfl, _, rfl, L, a, acc, rfl, t.ac, t.lL, t.few, t.short, fun p H1 hp s1 hrows => ?_⟩
    obtain ⟨xs, hxs, pr⟩ := id hrows
    have lx : xs.length = (rowsF L acc).length := Paired.length pr
    refine ⟨p, rfl, ⟨_, SqL.of hxs⟩, for_list (K := K) (a := p) (xs := xs) (fun i σ H' => Same H1 H' ∧ ((rowsF L acc).take i).find? (noPlace bk acc) = none ∧ ∃ x4, σ = [some (.ref b), some (nv L), some (.ref a), some (.ref e), x4])
      ⟨Same.refl _, rfl, none, rfl⟩ (fun i σ H' _ q => SqL.of (q.1 _ _ hxs)) ?_ ?_⟩
    · rintro i x σ H2 hx ⟨s2, hf, x4, rfl⟩
      obtain ⟨u, hu, hxu⟩ := pair_get' pr hx
      have hul := rows_mem_len t.short u (List.mem_of_getElem? hu)
      have s12 := s1.trans s2
      refine ⟨_, rfl, _, rfl, _, rfl, _, rfl, _, rfl, _, rfl, b, d, e, L, bk, x, u, rfl, t.bo.mono s12, hxu.mono s2, by omega, t.en.mono s12, fun m H3 hm s3 hm3 => ?_⟩
      refine ⟨b, d, a, e, m, L, bk, acc, told bk u, rfl, t.mono (s12.trans s3), hm3, fun H4 s4 => ?_⟩
      have sa := s12.trans (s3.trans s4)
      cases hpl : placeF bk acc (told bk u) with
      | some j =>
        have hno : noPlace bk acc u = false := by
          rw [noPlace, hpl]
          rfl
        refine ⟨_, _, rfl, rfl, _, rfl, ?_⟩
        rw [decide_eq_false (show ¬ ((j : Int) < 0) by omega)]
        exact iteF ⟨(s2.trans s3).trans s4, find_step hf hu hno, _, rfl⟩
      | none =>
        have hno : noPlace bk acc u = true := by
          rw [noPlace, hpl]
          rfl
        refine ⟨_, _, rfl, rfl, _, rfl, ?_⟩
        rw [decide_eq_true (show ((-1 : Int) < 0) by omega)]
        refine iteT ⟨_, rfl, k x H4 sa ?_⟩
        rw [strangerF, find_at hf hu hno]
        exact (hxu.mono s2).mono (s3.trans s4)
    · rintro σ H2 ⟨s2, hf, x4, rfl⟩
      refine k _ H2 (s1.trans s2) ?_
      rw [lx, List.take_length] at hf
      rw [strangerF, hf]
      rfl
end
end Gr
namespace Gr
open PySem L2
def wayF (bk : Bk) (acc : List Wd) (u : Wd) (l : Nat) : Nat := (placeF bk acc (told bk (u ++ [l]))).getD 0
def rowF (bk : Bk) (L : Nat) (acc : List Wd) (u : Wd) : Wd := (List.range L).map (wayF bk acc u)
def waysF (bk : Bk) (L : Nat) (acc : List Wd) : List Wd := acc.map (rowF bk L acc)
def guessF (bk : Bk) (L : Nat) (acc : List Wd) : Hs := ⟨L, acc.map fun u => (told bk u).getD 0, waysF bk L acc⟩
theorem map_take {α β : Type} (f : α → β) {xs : List α} {i : Nat} {x : α} (h : xs[i]? = some x) : (xs.take (i + 1)).map f = (xs.take i).map f ++ [f x] := by
  rw [List.take_add_one, h, List.map_append]
  rfl
theorem tw_app (u v : Wd) : tw (u ++ v) = tw u ++ tw v := List.map_append
section
variable {P : Program} {w : World} {K : PySem.W.Frag} {mg : Str → Option Value} {base : Heap} {CB CA CC : Addr}
def spWaysBy (CB : Addr) : Sp := fun vs H Q _ => ∃ (b d a e : Addr) (L : Nat) (bk : Bk) (acc : List Wd), vs = [.ref b, nv L, .ref a, .ref e] ∧ TabAt CB H b d a e L bk acc ∧ (∀ u ∈ acc, ∀ l, l < L → ∃ j, placeF bk acc (told bk (u ++ [l])) = some j) ∧
  ∀ v H', Same H H' → IsT2 H' v (waysF bk L acc) → Q v H'
theorem ok_ways_by (T : Txt K mg CB CA CC) : Good P w K mg base 4 "ways_by" ["book", "letters", "access", "ends"] (spWaysBy CB) := by
  refine T.ways_by.good sc_ways_by (fun vs H Q E h => ?_) (fun f cdv A outer s H vs Q E hr h => ?_)
  · obtain ⟨b, d, a, e, L, bk, acc, rfl, _⟩ := h
    rfl
  · obtain ⟨b, d, a, e, L, bk, acc, rfl, t, hall, k⟩ := h
    refine ⟨_, 
      (pss_cons (ps_set (i := 4) sc_ways_by.nd rfl (Or.inl rfl) (pe_lst pa_nil))
      (pss_cons (ps_for PassesOwn.never rfl (pi_list (pv 2)) (pg_name (i := 5) sc_ways_by.nd rfl (Or.inl rfl)) 
        (pss_cons (ps_set (i := 6) sc_ways_by.nd rfl (Or.inl rfl) (pe_lst pa_nil))
        (pss_cons (ps_for PassesOwn.never rfl (pi_range1 (by rfl) T.no_range (pa_cons (pv 1) pa_nil)) (pg_name (i := 7) sc_ways_by.nd rfl (Or.inl rfl)) 
          (pss_cons (ps_set (i := 8) sc_ways_by.nd rfl (Or.inl rfl) (pe_callG (ok_marks_of T) (hr.mono (by decide)) rfl (pa_cons (pv 0) (pa_cons (pe_op op_catX (pv 5) (pe_tupX (pa_cons (pv 7) pa_nil))) (pa_cons (pv 3) pa_nil)))))
          (pss_one (ps_expr (pe_bm PySem.F.plainAttrs_list PySem.F.slot_list_append PySem.F.type_list_append mt_append (pv 6) (pa_cons (pe_callG (ok_place_like T) (hr.mono (by decide)) rfl (pa_cons (pv 0) (pa_cons (pv 2) (pa_cons (pv 3) (pa_cons (pv 8) pa_nil))))) pa_nil))))))
        (pss_one (ps_expr (pe_bm PySem.F.plainAttrs_list PySem.F.slot_list_append PySem.F.type_list_append mt_append (pv 4) (pa_cons (pe_callTy call_tupleX (by rfl) T.no_tuple (by decide +kernel) (pa_cons (pv 6) pa_nil)) pa_nil)))))))
      (pss_one (ps_ret (pe_callTy call_tupleX (by rfl) T.no_tuple (by decide +kernel) (pa_cons (pv 4) pa_nil)))))), ?_⟩
    obtain ⟨xs, ha, pr⟩ := id t.ac
    have lx : xs.length = acc.length := Paired.length pr
    have few := t.few
    have lL := t.lL
    refine ⟨Nat.zero_le _, fun p hp => ?_⟩
    refine ⟨_, rfl, a, rfl, ⟨_, SqL.of (same_new hp _ _ ha)⟩, for_list (K := K) (a := a) (xs := xs) (fun i σ H' => Same H H' ∧ IsL2 H' p ((acc.take i).map (rowF bk L acc)) ∧ ∃ x5 x6 x7 x8, σ = [some (.ref b), some (nv L), some (.ref a), some (.ref e), some (.ref p), x5, x6, x7, x8])
      ⟨same_new hp, ⟨[], upd_same, .nil⟩, none, none, none, none, rfl⟩ (fun i σ H' _ q => SqL.of (q.1 _ _ ha)) ?_ ?_⟩
    · rintro i x σ H1 hx ⟨s1, r1, x5, x6, x7, x8, rfl⟩
      obtain ⟨u, hu, hxu⟩ := pair_get' pr hx
      have il : i < acc.length := (List.getElem?_eq_some_iff.mp hu).1
      have hum := List.mem_of_getElem? hu
      have hul := t.short u hum
      refine ⟨Nat.zero_le _, fun q hq => ?_⟩
      have hq0 : H q = none := s1.free hq
      refine ⟨_, rfl, L, rfl, by omega, by omega, for_range (lo := 0) (n := L) (fun j σ H' => Same H H' ∧ IsL2 H' p ((acc.take i).map (rowF bk L acc)) ∧ H' q = some (.lst (tw ((List.range j).map (wayF bk acc u)))) ∧ ∃ x7 x8, σ = [some (.ref b), some (nv L), some (.ref a), some (.ref e), some (.ref p), some x, some (.ref q), x7, x8])
        ⟨s1.trans (same_new hq), r1.mono (same_new hq), upd_same, _, _, rfl⟩ ?_ ?_⟩
      · rintro j σ H2 hj ⟨s2, r2, hq2, y7, y8, rfl⟩
        have ej : (0 : Int) + (j : Int) = ((j : Nat) : Int) := Int.zero_add _
        rw [ej]
        refine ⟨_, rfl, _, rfl, _, rfl, (by show 1 ≤ sizeLine; decide), fun tt H3 e3 ht => ?_⟩
        refine rd_cat (u := [j]) ((hxu.mono s2).mono e3) ⟨tt, rfl, ht⟩ (by simp; omega) fun v H4 e4 hv => ?_
        have s4 := s2.trans (e3.trans e4)
        refine ⟨_, rfl, b, d, e, L, bk, v, u ++ [j], rfl, t.bo.mono s4, hv, by simp; omega, t.en.mono s4, fun m H5 hm s5 hm5 => ?_⟩
        have s25 : Same H2 H5 := (e3.trans e4).trans s5
        refine ⟨_, rfl, .inl ⟨rfl, _, SqL.of (s25 _ _ hq2)⟩, _, rfl, _, rfl, _, rfl, _, rfl, b, d, a, e, m, L, bk, acc, told bk (u ++ [j]), rfl, t.mono (s2.trans s25), hm5, fun H6 s6 => ?_⟩
        have s26 : Same H2 H6 := s25.trans s6
        obtain ⟨g, hg⟩ := hall u hum j hj
        have hw : wayF bk acc u j = g := by rw [wayF, hg]; rfl
        have hq6 := s26 _ _ hq2
        rw [hg]
        refine ⟨q, _, _, rfl, rfl, hq6, ?_, same_mut (s2.trans s26) hq0, ?_, ?_, _, _, rfl⟩
        · rw [tw_len, List.length_map, List.length_range]
          exact Nat.lt_of_lt_of_le (show j < 5 by omega) (by decide)
        · obtain ⟨zs, hzs, pz⟩ := r2.mono s26
          exact IsL2.tx ⟨zs, hzs, pz⟩ (fun c ys ec => by rw [upd_ne (ne_of ec hq6 (fun z => nomatch z))]; exact ec) (upd_ne fun z => by
            have h1 := (same_new (o := .lst []) hq) p
            obtain ⟨zs1, hzs1, _⟩ := r1
            rw [z, hq] at hzs1
            cases hzs1)
        · rw [upd_same, List.range_succ, List.map_append, tw_app]
          have : tw (List.map (wayF bk acc u) [j]) = [nv g] := by rw [List.map_cons, hw]; rfl
          rw [this]
          rfl
      · rintro σ H2 ⟨s2, r2, hq2, y7, y8, rfl⟩
        obtain ⟨zs, hzs, pz⟩ := id r2
        refine ⟨_, rfl, .inl ⟨rfl, _, SqL.of hzs⟩, _, rfl, q, _, rfl, SqL.of hq2, fun tt H3 e3 ht => ?_⟩
        refine ⟨p, zs, _, rfl, rfl, e3 _ _ hzs, ?_, same_mut (s2.trans e3) hp, ?_, _, _, _, _, rfl⟩
        · rw [Paired.length pz, List.length_map, List.length_take]
          exact Nat.lt_of_le_of_lt (show min i acc.length ≤ 2 by omega) (by decide)
        · rw [map_take _ hu]
          exact IsL2.app (e3 _ _ hzs) (Paired.mapP pz fun _ _ q => q.mono e3) ⟨tt, rfl, ht⟩
    · rintro σ H1 ⟨s1, ⟨zs, hzs, pz⟩, x5, x6, x7, x8, rfl⟩
      rw [lx, List.take_length] at pz
      exact ⟨_, rfl, p, zs, rfl, SqL.of hzs, fun tt H2 e2 ht => k _ H2 (s1.trans e2) ⟨tt, zs, rfl, ht, Paired.mapP pz fun _ _ q => q.mono e2⟩⟩

def spGuessOf (CB : Addr) : Sp := fun vs H Q _ => ∃ (b d a e : Addr) (L : Nat) (bk : Bk) (acc : List Wd), vs = [.ref b, nv L, .ref a, .ref e] ∧ TabAt CB H b d a e L bk acc ∧ (∀ u ∈ acc, ∀ l, l < L → ∃ j, placeF bk acc (told bk (u ++ [l])) = some j) ∧ (∀ u ∈ acc, ∃ m, told bk u = some m) ∧
  ∀ v H', Same H H' → IsH H' v (guessF bk L acc) → Q v H'
theorem ok_guess_of (T : Txt K mg CB CA CC) : Good P w K mg base 5 "guess_of" ["book", "letters", "access", "ends"] (spGuessOf CB) := by
  refine T.guess_of.good sc_guess_of (fun vs H Q E h => ?_) (fun f cdv A outer s H vs Q E hr h => ?_)
  · obtain ⟨b, d, a, e, L, bk, acc, rfl, _⟩ := h
    rfl
  · obtain ⟨b, d, a, e, L, bk, acc, rfl, t, hall, hms, k⟩ := h
    refine ⟨_, 
      (pss_cons (ps_set (i := 4) sc_guess_of.nd rfl (Or.inl rfl) (pe_callTy call_tupleX (by rfl) T.no_tuple (by decide +kernel) (pa_cons (pe_lc (own := [("word", 5)]) (g := gName 5) (by rfl) sc_guess_of.nd (pi_list (pv 2)) (blkOk_by (own := [("word", 5)]) (N := ["book", "letters", "access", "ends", "marks", "word"]) (sc := defScope s_guess_of) (by decide +kernel)) (fun _ _ _ _ _ => pg_name (i := 5) sc_guess_of.nd rfl (Or.inl rfl)) (fun _ _ _ _ _ => pts_nil) (fun _ _ _ _ _ => (pe_methG (ok_Book_told T) (hr.mono (by decide)) (pv 0) (pa_cons (pv 5) pa_nil)))) pa_nil)))
      (pss_one (ps_ret (pe_tupX (pa_cons (pv 1) (pa_cons (pv 4) (pa_cons (pe_callG (ok_ways_by T) (hr.mono (by decide)) rfl (pa_cons (pv 0) (pa_cons (pv 1) (pa_cons (pv 2) (pa_cons (pv 3) pa_nil))))) pa_nil))))))), ?_⟩
    obtain ⟨xs, ha, pr⟩ := id t.ac
    have lx : xs.length = acc.length := Paired.length pr
    have few := t.few
    refine ⟨_, rfl, a, rfl, ⟨_, SqL.of ha⟩, fun D hD => lc_listX (K := K) (a := a) (xs := xs) (fun i H' => Same H H' ∧ H' D = some (.lst (tw ((acc.take i).map fun u => (told bk u).getD 0))))
      ⟨same_new hD, upd_same⟩ (fun i H' _ q => SqL.of (q.1 _ _ ha)) ?_ ?_⟩
    · rintro i y H1 hy ⟨s1, hD1⟩
      obtain ⟨u, hu, hyu⟩ := pair_get' pr hy
      have hum := List.mem_of_getElem? hu
      have il := (List.getElem?_eq_some_iff.mp hu).1
      obtain ⟨dx, hbo⟩ := (t.bo.mono s1).ob
      obtain ⟨m, hm⟩ := hms u hum
      refine ⟨rfl, _, rfl, b, dx, _, rfl, hbo, zip_lookup_none (by decide +kernel), _, rfl, b, d, L, bk, y, u, rfl, t.bo.mono s1, hyu.mono s1, _, hD1, ?_, same_mut s1 hD, ?_⟩
      · rw [tw_len, List.length_map, List.length_take]
        exact Nat.lt_of_le_of_lt (show min i acc.length ≤ 2 by omega) (by decide)
      · rw [upd_same, map_take _ hu, tw_app, hm]
        rfl
    · rintro H1 ⟨s1, hD1⟩
      rw [lx, List.take_length] at hD1
      refine ⟨D, _, rfl, SqL.of hD1, fun tt H2 e2 ht => ?_⟩
      have s2 := s1.trans e2
      refine ⟨_, rfl, _, rfl, _, rfl, _, rfl, _, rfl, _, rfl, b, d, a, e, L, bk, acc, rfl, t.mono s2, hall, fun y H3 s3 hy => ⟨by show 3 ≤ sizeLine; decide, fun r H4 e4 hr4 => ?_⟩⟩
      refine k _ H4 (s2.trans (s3.trans e4)) ⟨r, _, _, rfl, hr4, ⟨tt, rfl, e4 _ _ (s3 _ _ ht)⟩, hy.mono e4⟩

def spFirstWrong (CB : Addr) : Sp := fun vs H Q _ => ∃ (b d : Addr) (v : V) (L : Nat) (bk : Bk) (h : Hs), vs = [.ref b, v] ∧ BookAt CB H b d L bk ∧ bk.length ≤ 1000 ∧ IsH H v h ∧ HsOk h ∧ (∀ p ∈ bk, (∀ x ∈ p.1, x < h.L) ∧ p.1.length ≤ 1000 ∧ markH h p.1 = p.2) ∧
  ∀ H', Same H H' → Q .non H'
theorem ok_first_wrong (T : Txt K mg CB CA CC) : Good P w K mg base 5 "first_wrong" ["book", "house"] (spFirstWrong CB) := by
  refine T.first_wrong.good sc_first_wrong (fun vs H Q E h => ?_) (fun f cdv A outer s H vs Q E hr h => ?_)
  · obtain ⟨b, d, v, L, bk, h, rfl, _⟩ := h
    rfl
  · obtain ⟨b, d, v, L, bk, h, rfl, hb, hz, hv, ho, hall, k⟩ := h
    refine ⟨_, 
      (pss_cons (ps_for PassesOwn.never rfl (pi_list (pe_methG0 (ok_Book_heard T) (hr.mono (by decide)) (pv 0))) (pg_tup rfl (pgs_cons (pg_name (i := 2) sc_first_wrong.nd rfl (Or.inl rfl)) (pgs_cons (pg_name (i := 3) sc_first_wrong.nd rfl (Or.inl rfl)) pgs_nil))) 
        (pss_one (ps_if (pt_cmpR op_ne (pe_callG (ok_mark_behind T) (hr.mono (by decide)) rfl (pa_cons (pv 1) (pa_cons (pv 2) pa_nil))) (pv 3) (nomark _)) 
          (pss_one (ps_ret (pv 2))) pss_nil)))
      (pss_one (ps_ret pe_non))), ?_⟩
    obtain ⟨dx, hbo⟩ := id hb.ob
    refine ⟨_, rfl, b, dx, _, rfl, hbo, zip_lookup_none (by decide +kernel), b, d, L, bk, rfl, hb, by omega, fun p H1 hp s1 ⟨xs, hxs, pr⟩ => ?_⟩
    have lx : xs.length = bk.length := by
      rw [Paired.length pr]
      exact List.length_map _
    refine ⟨p, rfl, ⟨_, SqL.of hxs⟩, for_list (K := K) (a := p) (xs := xs) (fun i σ H' => Same H1 H' ∧ ∃ x2 x3, σ = [some (.ref b), some v, x2, x3])
      ⟨Same.refl _, none, none, rfl⟩ (fun i σ H' _ q => SqL.of (q.1 _ _ hxs)) ?_ ?_⟩
    · rintro i x σ H2 hx ⟨s2, x2, x3, rfl⟩
      obtain ⟨q, hq, hxq⟩ := pair_get' pr hx
      obtain ⟨⟨u, m⟩, hum, rfl⟩ : ∃ um : Wd × Nat, bk[i]? = some um ∧ q = (keyW um.1, nv um.2) := by
        unfold kvB at hq
        rw [List.getElem?_map] at hq
        cases hb : bk[i]? with
        | none => rw [hb] at hq; cases hq
        | some um => rw [hb] at hq; exact ⟨um, rfl, (Option.some.inj hq).symm⟩
      obtain ⟨t, y, rfl, ht, hy⟩ := hxq.mono s2
      obtain ⟨h1, h2, h3⟩ := hall _ (List.mem_of_getElem? hum)
      have hyw : IsW H2 (.ref y) u := ⟨y, rfl, by rw [← keyW_tw]; exact hy⟩
      refine ⟨t, _, rfl, SqT.of ht, rfl, _, _, rfl, _, _, rfl, rfl, ?_⟩
      refine ⟨_, rfl, _, rfl, v, .ref y, h, u, rfl, hv.mono (s1.trans s2), ho, hyw, h1, h2, fun H3 s3 => ⟨_, rfl, rfl, _, rfl, ?_⟩⟩
      rw [h3]
      refine iteNS rfl ⟨s2.trans s3, _, _, rfl⟩
    · rintro σ H2 ⟨s2, x2, x3, rfl⟩
      exact k H2 (s1.trans s2)
end
end Gr
namespace Gr
open PySem L2
theorem deI (i j : Int) : decide (V.int i = V.int j) = decide (i = j) := by
  rw [Bool.eq_iff_iff]
  simp
/-! ### rows of signs; n helpers, one plain letter: the letter 0, the calls 1 .. n, the end n + 1 -/
def nestF (n : Nat) : Wd → Nat → Bool
  | [], k => decide (k = 0)
  | s :: r, k => if s = 1 + n then decide (0 < k) && nestF n r (k - 1) else if 1 + n < s then false else if 1 ≤ s then nestF n r (k + 1) else nestF n r k
def spreadS (n c : Nat) : Wd := if 1 ≤ c then [c, 1 + n] else [c]
def spreadF (n : Nat) (u : Wd) : Wd := u.flatMap (spreadS n)
def rowW (n j : Nat) (u : Wd) : Wd := if j = 0 then u else (1 + j) :: u ++ [1 + n]
def useRow (n j : Nat) (u : Wd) : Wd := rowW n j (spreadF n u)
/-- a use: three empty rows -/
def IsUses (H : Hp) (a : Addr) (n : Nat) : Prop := ∃ vs, H a = some (.lst vs) ∧ Paired (IsT2 H) vs (List.replicate n [[], [], []])
theorem IsUses.tx {H H' : Hp} {a : Addr} {n : Nat} (h : IsUses H a n) (e : Tx H H') (ea : ∀ vs, H a = some (.lst vs) → H' a = some (.lst vs)) : IsUses H' a n := by
  obtain ⟨vs, ha, p⟩ := h
  exact ⟨vs, ea _ ha, Paired.mapP p fun _ _ q => q.tx e⟩
theorem IsUses.mono {H H' : Hp} {a : Addr} {n : Nat} (h : IsUses H a n) (e : Same H H') : IsUses H' a n := h.tx (.of e) fun vs q => e _ _ q
section
variable {P : Program} {w : World} {K : PySem.W.Frag} {mg : Str → Option Value} {base : Heap} {CB CA CC : Addr}
def spNested : Sp := fun vs H Q _ => ∃ (n : Nat) (v : V) (u : Wd), vs = [nv 1, nv n, v] ∧ IsW H v u ∧ nestF n u 0 = true ∧ Q (.bl true) H
theorem ok_nested (T : Txt K mg CB CA CC) : Good P w K mg base 1 "nested" ["plain", "helpers", "signs"] spNested := by
  refine T.nested.good sc_nested (fun vs H Q E h => ?_) (fun f cdv A outer s H vs Q E hr h => ?_)
  · obtain ⟨n, v, u, rfl, _⟩ := h
    rfl
  · obtain ⟨n, v, u, rfl, ⟨a, rfl, ha⟩, hn, k⟩ := h
    refine ⟨_, 
      (pss_cons (ps_set (i := 3) sc_nested.nd rfl (Or.inl rfl) pe_int)
      (pss_cons (ps_for PassesOwn.never rfl (pi_tup (pv 2)) (pg_name (i := 4) sc_nested.nd rfl (Or.inl rfl)) 
        (pss_cons (ps_if (PW.pt (pw_or (pt_cmpR op_lt (pv 4) pe_int (nomark _)) (pw_or1 (pt_cmpR op_gt (pv 4) (pe_op op_add (pv 0) (pv 1)) (nomark _))))) 
          (pss_one (ps_ret pe_bl)) pss_nil)
        (pss_one (ps_if (pt_cmpR op_eq (pv 4) (pe_op op_add (pv 0) (pv 1)) (nomark _)) 
          (pss_cons (ps_set (i := 3) sc_nested.nd rfl (Or.inl rfl) (pe_op op_sub (pv 3) pe_int))
          (pss_one (ps_if (pt_cmpR op_lt (pv 3) pe_int (nomark _)) 
            (pss_one (ps_ret pe_bl)) pss_nil))) 
          (pss_one (ps_if (pt_cmpR op_ge (pv 4) (pv 0) (nomark _)) 
            (pss_one (ps_set (i := 3) sc_nested.nd rfl (Or.inl rfl) (pe_op op_add (pv 3) pe_int))) pss_nil))))))
      (pss_one (ps_ret (pe_cmpR op_eq (pv 3) pe_int (nomark _)))))), ?_⟩
    refine ⟨_, rfl, a, rfl, ⟨_, SqT.of ha⟩, for_tup (K := K) (a := a) (xs := tw u) (fun i σ H' => H' = H ∧ ∃ (m : Nat) (x : Option V), σ = [some (nv 1), some (nv n), some (.ref a), some (nv m), x] ∧ nestF n (u.drop i) m = true)
      ⟨rfl, 0, none, rfl, hn⟩ (fun i σ H' _ p => ?_) ?_ ?_⟩
    · rw [p.1]
      exact SqT.of ha
    · rintro i x σ H' hx ⟨rfl, m, y, rfl, hm⟩
      obtain ⟨z, hz, rfl⟩ := tw_inv hx
      have il : i < u.length := (List.getElem?_eq_some_iff.mp hz).1
      have hd : u.drop i = z :: u.drop (i + 1) := by
        rw [List.drop_eq_getElem_cons il]
        rw [List.getElem?_eq_getElem il] at hz
        rw [Option.some.inj hz]
      rw [hd, nestF] at hm
      refine ⟨_, rfl, _, _, rfl, rfl, _, rfl, ?_⟩
      rw [decide_eq_false (show ¬ (z : Int) < 0 by omega)]
      refine iteF ⟨_, rfl, _, rfl, _, rfl, _, _, rfl, rfl, _, _, rfl, rfl, _, rfl, ?_⟩
      by_cases h1 : z = 1 + n
      · rw [if_pos h1] at hm
        rw [decide_eq_false (show ¬ (((1 : Nat) : Int) + (n : Int)) < (z : Int) by omega)]
        refine iteF ⟨_, rfl, _, rfl, _, rfl, _, _, rfl, rfl, rfl, _, rfl, ?_⟩
        rw [deI, decide_eq_true (show (z : Int) = ((1 : Nat) : Int) + (n : Int) by omega)]
        rw [Bool.and_eq_true, decide_eq_true_eq] at hm
        refine iteT ⟨_, rfl, _, _, rfl, rfl, _, rfl, _, _, rfl, rfl, _, rfl, ?_⟩
        rw [decide_eq_false (show ¬ ((m : Int) - 1) < 0 by omega)]
        refine iteF ⟨rfl, m - 1, some (nv z), ?_, hm.2⟩
        have : ((m : Int) - 1) = ((m - 1 : Nat) : Int) := by omega
        show [some (nv 1), some (nv n), some (.ref a), some (.int ((m : Int) - 1)), some (nv z)] = _
        rw [this]
      · rw [if_neg h1] at hm
        by_cases h2 : 1 + n < z
        · rw [if_pos h2] at hm
          cases hm
        · rw [if_neg h2] at hm
          rw [decide_eq_false (show ¬ (((1 : Nat) : Int) + (n : Int)) < (z : Int) by omega)]
          refine iteF ⟨_, rfl, _, rfl, _, rfl, _, _, rfl, rfl, rfl, _, rfl, ?_⟩
          rw [deI, decide_eq_false (show ¬ (z : Int) = ((1 : Nat) : Int) + (n : Int) by omega)]
          refine iteF ⟨_, rfl, _, rfl, _, _, rfl, rfl, _, rfl, ?_⟩
          by_cases h3 : 1 ≤ z
          · rw [if_pos h3] at hm
            rw [decide_eq_true (show ((1 : Nat) : Int) ≤ (z : Int) by omega)]
            exact iteT ⟨_, rfl, _, _, rfl, rfl, rfl, m + 1, _, rfl, hm⟩
          · rw [if_neg h3] at hm
            rw [decide_eq_false (show ¬ ((1 : Nat) : Int) ≤ (z : Int) by omega)]
            exact iteF ⟨rfl, m, _, rfl, hm⟩
    · rintro σ H' ⟨rfl, m, y, rfl, hm⟩
      rw [tw_len, List.drop_length, nestF, decide_eq_true_eq] at hm
      subst hm
      exact ⟨_, rfl, rfl, k⟩

theorem spread_take {n : Nat} {u : Wd} {i z : Nat} (h : u[i]? = some z) : spreadF n (u.take (i + 1)) = spreadF n (u.take i) ++ spreadS n z := by
  unfold spreadF
  rw [List.take_add_one, h, List.flatMap_append]
  simp
theorem spread_len (n : Nat) : ∀ u : Wd, (spreadF n u).length ≤ 2 * u.length
  | [] => by simp [spreadF]
  | c :: u => by
    have h := spread_len n u
    have e : spreadF n (c :: u) = spreadS n c ++ spreadF n u := by simp [spreadF]
    rw [e, List.length_append, List.length_cons]
    have : (spreadS n c).length ≤ 2 := by unfold spreadS; split <;> simp
    omega
def spSpread : Sp := fun vs H Q _ => ∃ (n : Nat) (v : V) (u : Wd) (r : Addr), vs = [nv 1, nv n, v, .ref r] ∧ IsW H v u ∧ (∀ x ∈ u, x < 1 + n) ∧ u.length ≤ 100 ∧ IsL2 H r (List.replicate n []) ∧ ∀ x H', Same H H' → IsW H' x (spreadF n u) → Q x H'
theorem ok_spread (T : Txt K mg CB CA CC) : Good P w K mg base 1 "spread" ["plain", "helpers", "local", "rows"] spSpread := by
  refine T.spread.good sc_spread (fun vs H Q E h => ?_) (fun f cdv A outer s H vs Q E hr h => ?_)
  · obtain ⟨n, v, u, r, rfl, _⟩ := h
    rfl
  · obtain ⟨n, v, u, r, rfl, ⟨a, rfl, ha⟩, hu, hl, hrw, k⟩ := h
    refine ⟨_, 
      (pss_cons (ps_set (i := 4) sc_spread.nd rfl (Or.inl rfl) (pe_lst pa_nil))
      (pss_cons (ps_for PassesOwn.never rfl (pi_tup (pv 2)) (pg_name (i := 5) sc_spread.nd rfl (Or.inl rfl)) 
        (pss_cons (ps_expr (pe_bm PySem.F.plainAttrs_list PySem.F.slot_list_append PySem.F.type_list_append mt_append (pv 4) (pa_cons (pv 5) pa_nil)))
        (pss_one (ps_if (pt_cmpR op_ge (pv 5) (pv 0) (nomark _)) 
          (pss_cons (ps_expr (pe_bm PySem.F.plainAttrs_list PySem.F.slot_list_extend PySem.F.type_list_extend mt_extendX (pv 4) (pa_cons (pe_ix ix_list (pv 3) (pe_op op_sub (pv 5) (pv 0)) (fun _ _ => rfl)) pa_nil)))
          (pss_one (ps_expr (pe_bm PySem.F.plainAttrs_list PySem.F.slot_list_append PySem.F.type_list_append mt_append (pv 4) (pa_cons (pe_op op_add (pv 0) (pv 1)) pa_nil))))) pss_nil))))
      (pss_one (ps_ret (pe_callTy call_tupleX (by rfl) T.no_tuple (by decide +kernel) (pa_cons (pv 4) pa_nil)))))), ?_⟩
    refine ⟨Nat.zero_le _, fun p hp => ?_⟩
    refine ⟨_, rfl, a, rfl, ⟨_, SqT.of (same_new hp _ _ ha)⟩, for_tup (K := K) (a := a) (xs := tw u) (fun i σ H' => Same H H' ∧ H' p = some (.lst (tw (spreadF n (u.take i)))) ∧ ∃ x, σ = [some (nv 1), some (nv n), some (.ref a), some (.ref r), some (.ref p), x])
      ⟨same_new hp, upd_same, none, rfl⟩ (fun i σ H' _ q => SqT.of (q.1 _ _ ha)) ?_ ?_⟩
    · rintro i x σ H1 hx ⟨s1, hp1, y, rfl⟩
      obtain ⟨z, hz, rfl⟩ := tw_inv hx
      have il : i < u.length := (List.getElem?_eq_some_iff.mp hz).1
      have hz1 := hu z (List.mem_of_getElem? hz)
      have l1 := spread_len n (u.take i)
      have l2 : (u.take i).length ≤ 100 := by rw [List.length_take]; omega
      have lt : ∀ m, m ≤ 1000 → m < sizeLine := fun m h => Nat.lt_of_le_of_lt h (by decide)
      refine ⟨_, rfl, .inl ⟨rfl, _, SqL.of hp1⟩, _, rfl, p, _, _, rfl, rfl, hp1, lt _ (by rw [tw_len]; omega), ?_⟩
      have s2 : Same H (upd H1 p (.lst (tw (spreadF n (u.take i)) ++ [nv z]))) := same_mut s1 hp
      refine ⟨_, rfl, _, rfl, _, _, rfl, rfl, _, rfl, ?_⟩
      by_cases h3 : 1 ≤ z
      · rw [decide_eq_true (show ((1 : Nat) : Int) ≤ (z : Int) by omega)]
        obtain ⟨vs, hvs, pr⟩ := hrw.mono s2
        have gz : (List.replicate n ([] : Wd))[z - 1]? = some [] := by
          rw [List.getElem?_replicate, if_pos (by omega)]
        obtain ⟨xv, hxv, ⟨t, rfl, ht⟩⟩ := pair_get pr gz
        refine iteT ⟨_, rfl, .inl ⟨rfl, _, SqL.of upd_same⟩, _, rfl, _, rfl, _, rfl, _, _, rfl, rfl, r, _, _, _, rfl, rfl, SqL.of hvs, at_of (j := z - 1) (by omega) hxv, p, t, _, _, rfl, rfl, upd_same, ht, ?_, ?_⟩
        · rw [List.length_append, tw_len, tw_len]
          exact Nat.le_of_lt (lt _ (by simp; omega))
        · refine ⟨_, rfl, .inl ⟨rfl, _, SqL.of upd_same⟩, _, rfl, _, rfl, _, _, rfl, rfl, p, _, _, rfl, rfl, upd_same, ?_, same_mut (same_mut s2 hp) hp, ?_, _, rfl⟩
          · rw [List.length_append, List.length_append, tw_len, tw_len]
            exact lt _ (by simp; omega)
          · rw [upd_same, spread_take hz, spreadS, if_pos h3, tw_app]
            have e : tw ([] : Wd) = [] := rfl
            have e2 : nv (1 + n) = .int (((1 : Nat) : Int) + (n : Int)) := rfl
            have e3 : tw [z, 1 + n] = [nv z, .int (((1 : Nat) : Int) + (n : Int))] := rfl
            rw [e3, e, List.append_nil, List.append_assoc]
            rfl
      · rw [decide_eq_false (show ¬ ((1 : Nat) : Int) ≤ (z : Int) by omega)]
        refine iteF ⟨s2, ?_, _, rfl⟩
        rw [upd_same, spread_take hz, spreadS, if_neg h3, tw_app]
        rfl
    · rintro σ H1 ⟨s1, hp1, y, rfl⟩
      rw [tw_len, List.take_length] at hp1
      exact ⟨_, rfl, p, _, rfl, SqL.of hp1, fun t H2 e2 ht => k _ H2 (s1.trans e2) ⟨t, rfl, ht⟩⟩

def spRowWith : Sp := fun vs H Q _ => ∃ (n j : Nat) (us v : V) (u : Wd), vs = [nv 1, nv n, nv j, us, v] ∧ IsT2 H us [[], [], []] ∧ IsW H v u ∧ u.length ≤ 300 ∧ ∀ x H', Same H H' → IsW H' x (rowW n j u) → Q x H'
theorem ok_row_with (T : Txt K mg CB CA CC) : Good P w K mg base 1 "row_with" ["plain", "helpers", "j", "use", "within"] spRowWith := by
  refine T.row_with.good sc_row_with (fun vs H Q E h => ?_) (fun f cdv A outer s H vs Q E hr h => ?_)
  · obtain ⟨n, j, us, v, u, rfl, _⟩ := h
    rfl
  · obtain ⟨n, j, us, v, u, rfl, hus, hv, hl, k⟩ := h
    refine ⟨_, 
      (pss_cons (ps_if (pt_cmpR op_eq (pv 2) pe_int (nomark _)) 
        (pss_one (ps_ret (pv 4))) pss_nil)
      (pss_one (ps_ret (pe_op op_catX (pe_op op_catX (pe_op op_catX (pe_op op_catX (pe_ixTC (pv 3)) (pe_tupX (pa_cons (pe_op op_add (pv 0) (pv 2)) pa_nil))) (pv 4)) (pe_tupX (pa_cons (pe_op op_add (pv 0) (pv 1)) pa_nil))) (pe_ixTC (pv 3)))))), ?_⟩
    refine ⟨_, rfl, rfl, _, rfl, ?_⟩
    rw [deI]
    by_cases hj : j = 0
    · rw [decide_eq_true (show (j : Int) = 0 by omega)]
      refine iteT ⟨_, rfl, k v H (Same.refl H) ?_⟩
      rw [rowW, if_pos hj]
      exact hv
    · rw [decide_eq_false (show ¬ (j : Int) = 0 by omega)]
      refine iteF ⟨_, rfl, ?_⟩
      have rdU : ∀ {i : Nat} {H : Hp} {Q : VK}, IsT2 H us [[], [], []] → i < 3 → (∀ x, IsW H x [] → Q x H) → rIxTC K (i : Int) us H Q := fun {i H Q} h hi q => rd_t2 (w := []) h (by match i, hi with | 0, _ => rfl | 1, _ => rfl | 2, _ => rfl) q
      refine rdU (i := 0) hus (by decide) fun x0 h0 => ?_
      refine ⟨_, rfl, _, rfl, _, _, rfl, rfl, (by show 1 ≤ sizeLine; decide), fun t1 H1 e1 ht1 => ?_⟩
      refine rd_cat (u := [1 + j]) (h0.mono e1) ⟨t1, rfl, ht1⟩ (by simp) fun x1 H2 e2 h1 => ?_
      have e02 := e1.trans e2
      refine ⟨_, rfl, rd_cat h1 (hv.mono e02) (by simp; omega) fun x2 H3 e3 h2 => ?_⟩
      refine ⟨_, rfl, _, rfl, _, _, rfl, rfl, (by show 1 ≤ sizeLine; decide), fun t4 H4 e4 ht4 => ?_⟩
      refine rd_cat (u := [1 + n]) (h2.mono e4) ⟨t4, rfl, ht4⟩ (by simp; omega) fun x5 H5 e5 h5 => ?_
      have e05 := e02.trans (e3.trans (e4.trans e5))
      refine ⟨_, rfl, rdU (i := 2) (hus.mono e05) (by decide) fun x6 h6 => rd_cat h5 h6 (by simp; omega) fun x7 H7 e7 h7 => k x7 H7 (e05.trans e7) ?_⟩
      rw [rowW, if_neg hj]
      simpa using h7

def spUseRow : Sp := fun vs H Q _ => ∃ (n j : Nat) (us : Addr) (v : V) (u : Wd), vs = [nv 1, nv n, nv j, .ref us, v] ∧ IsUses H us n ∧ j < n ∧ n ≤ 3 ∧ IsW H v u ∧ (∀ x ∈ u, x < 1 + n) ∧ u.length ≤ 100 ∧ ∀ x H', Same H H' → IsW H' x (useRow n j u) → Q x H'
theorem ok_use_row (T : Txt K mg CB CA CC) : Good P w K mg base 2 "use_row" ["plain", "helpers", "j", "use", "local"] spUseRow := by
  refine T.use_row.good sc_use_row (fun vs H Q E h => ?_) (fun f cdv A outer s H vs Q E hr h => ?_)
  · obtain ⟨n, j, us, v, u, rfl, _⟩ := h
    rfl
  · obtain ⟨n, j, us, v, u, rfl, hus, hj, hn, hv, hx, hl, k⟩ := h
    refine ⟨_, 
      (pss_cons (ps_setLc (i := 5) (own := [("one", 6)]) (g := gName 6) (te := tUn (rIxTC K 1) (tVar 6)) (by rfl) sc_use_row.nd rfl rfl (sw_true rfl rfl rfl (by decide +kernel)) (pi_list (pv 3)) (blkOk_by (own := [("one", 6)]) (N := ["plain", "helpers", "j", "use", "local", "rows", "one"]) (sc := defScope s_use_row) (by decide +kernel)) (fun _ _ _ _ _ => pg_name (i := 6) sc_use_row.nd rfl (Or.inl rfl)) (fun _ _ _ _ _ => pts_nil) (fun _ _ _ _ _ => (pe_ixTC (pv 6))))
      (pss_one (ps_ret (pe_callG (ok_row_with T) (hr.mono (by decide)) rfl (pa_cons (pv 0) (pa_cons (pv 1) (pa_cons (pv 2) (pa_cons (pe_ix ix_list (pv 3) (pv 2) (fun _ _ => rfl)) (pa_cons (pe_callG (ok_spread T) (hr.mono (by decide)) rfl (pa_cons (pv 0) (pa_cons (pv 1) (pa_cons (pv 4) (pa_cons (pv 5) pa_nil))))) pa_nil))))))))), ?_⟩
    obtain ⟨xs, ha, pr⟩ := id hus
    have lx : xs.length = n := by
      rw [Paired.length pr, List.length_replicate]
    refine ⟨_, rfl, us, rfl, ⟨_, SqL.of ha⟩, fun D hD => lc_listX (K := K) (a := us) (xs := xs) (fun i H' => Same H H' ∧ IsL2 H' D (List.replicate i []))
      ⟨same_new hD, [], upd_same, .nil⟩ (fun i H' _ q => SqL.of (q.1 _ _ ha)) ?_ ?_⟩
    · rintro i y H1 hy ⟨s1, zs, hzs, pz⟩
      have il := (List.getElem?_eq_some_iff.mp hy).1
      obtain ⟨w3, hw3, hyw⟩ := pair_get' pr hy
      obtain rfl : w3 = [[], [], []] := by
        rw [List.getElem?_replicate] at hw3
        split at hw3
        · exact (Option.some.inj hw3).symm
        · cases hw3
      refine ⟨rfl, _, rfl, rd_t2 (w := []) (i := 1) (hyw.mono s1) rfl fun x hxw => ⟨zs, hzs, ?_, same_mut s1 hD, ?_⟩⟩
      · rw [Paired.length pz, List.length_replicate]
        exact Nat.lt_of_lt_of_le (show i < 4 by omega) (by decide)
      · rw [List.replicate_succ']
        exact IsL2.app hzs pz hxw
    · rintro H1 ⟨s1, hD1⟩
      rw [lx] at hD1
      have gj : (List.replicate n ([[], [], []] : List Wd))[j]? = some [[], [], []] := by
        rw [List.getElem?_replicate, if_pos hj]
      obtain ⟨xv, hxv, hxw⟩ := pair_get pr gj
      refine ⟨_, rfl, _, rfl, _, rfl, _, rfl, _, rfl, rd_l (s1 _ _ ha) hxv ?_⟩
      refine ⟨_, rfl, _, rfl, _, rfl, _, rfl, n, v, u, D, rfl, hv.mono s1, hx, hl, hD1, fun x H2 s2 hx2 => ?_⟩
      have := spread_len n u
      exact ⟨n, j, xv, x, _, rfl, hxw.mono (s1.trans s2), hx2, by omega, fun y H3 s3 hy => k y H3 (s1.trans (s2.trans s3)) hy⟩
end
end Gr
namespace Gr
open PySem L2
abbrev Pt := Nat × Wd
def partsGo (n : Nat) : Wd → List Pt → List Pt → List Pt
  | [], found, st => found ++ [(0, (st.getLast?.getD (0, [])).2)]
  | s :: r, found, st => match st with
    | [] => found
    | (j, u) :: st' => if s = 1 + n then partsGo n r (found ++ [(j, u)]) st'
      else if 1 ≤ s then partsGo n r found ((s - 1, []) :: (j, u ++ [s]) :: st') else partsGo n r found ((j, u ++ [s]) :: st')
def partsF (n : Nat) (u : Wd) : List Pt := partsGo n u [] [(0, [])]
def IsPt (H : Hp) (v : V) (x : Pt) : Prop := ∃ t y, v = .ref t ∧ H t = some (.tup [nv x.1, y]) ∧ IsW H y x.2
theorem IsPt.tx {H H' : Hp} {v : V} {x : Pt} (h : IsPt H v x) (e : Tx H H') : IsPt H' v x := by
  obtain ⟨t, y, rfl, h1, h2⟩ := h
  exact ⟨t, y, rfl, e _ _ h1, h2.tx e⟩
def IsParts (H : Hp) (p : Addr) (xs : List Pt) : Prop := ∃ vs, H p = some (.lst vs) ∧ Paired (IsPt H) vs xs
theorem tx_upd {H : Hp} {p : Addr} {xs : List V} {o : HO} (h : H p = some (.lst xs)) : Tx H (upd H p o) := fun b ys e => by
  rw [upd_ne (ne_of e h (fun z => nomatch z))]
  exact e
theorem last_rev {α : Type} (x : α) (r : List α) : ((x :: r).reverse)[((x :: r).reverse).length - 1]? = some x := by
  rw [List.reverse_cons]
  simp
theorem dropLast_rev {α : Type} (x : α) (r : List α) : ((x :: r).reverse).dropLast = r.reverse := by
  rw [List.reverse_cons, List.dropLast_concat]
abbrev LsAt (H : Hp) : List Addr → List Pt → Prop := Paired fun a x => H a = some (.lst (tw x.2))
theorem LsAt.other {H : Hp} {q : Addr} {o : HO} : ∀ {as : List Addr} {st : List Pt}, LsAt H as st → q ∉ as → LsAt (upd H q o) as st
  | _, _, .nil, _ => .nil
  | _, _, .cons r t, h => .cons (by rw [upd_ne (fun z => h (by simp [z]))]; exact r) (LsAt.other t fun z => h (by simp [z]))
structure PI (H H' : Hp) (p c W : Addr) (found st : List Pt) (as : List Addr) : Prop where
  sm : Same H H'
  fp : H p = none
  fc : H c = none
  fw : H W = none
  pc : p ≠ c
  pw : p ≠ W
  cw : c ≠ W
  pf : IsParts H' p found
  cc : H' c = some (.lst ((st.map fun x => nv x.1).reverse))
  ww : H' W = some (.lst ((as.map V.ref).reverse))
  aw : LsAt H' as st
  nd : as.Nodup
  fr : ∀ a ∈ as, H a = none ∧ a ≠ p ∧ a ≠ c ∧ a ≠ W
section
variable {H H' H2 : Hp} {p c W : Addr} {found st : List Pt} {as : List Addr}
theorem IsParts.mono {xs : List Pt} (h : IsParts H p xs) (e : Same H H') : IsParts H' p xs := by
  obtain ⟨vs, h1, h2⟩ := h
  exact ⟨vs, e _ _ h1, Paired.mapP h2 fun _ _ q => q.tx (.of e)⟩
theorem IsParts.other {xs : List Pt} {q : Addr} {ys : List V} {o : HO} (h : IsParts H p xs) (hq : H q = some (.lst ys)) (n : p ≠ q) : IsParts (upd H q o) p xs := by
  obtain ⟨vs, h1, h2⟩ := h
  exact ⟨vs, by rw [upd_ne n]; exact h1, Paired.mapP h2 fun _ _ r => r.tx (tx_upd hq)⟩
theorem PI.mono (h : PI H H' p c W found st as) (e : Same H' H2) : PI H H2 p c W found st as :=
  ⟨h.sm.trans e, h.fp, h.fc, h.fw, h.pc, h.pw, h.cw, h.pf.mono e, e _ _ h.cc, e _ _ h.ww, Paired.mapP h.aw fun _ _ q => e _ _ q, h.nd, h.fr⟩
/-- a part more -/
theorem PI.more (h : PI H H' p c W found st as) {fv : List V} {v : V} {x : Pt} (hf : H' p = some (.lst fv)) (pr : Paired (IsPt H') fv found) (hv : IsPt H' v x) : PI H (upd H' p (.lst (fv ++ [v]))) p c W (found ++ [x]) st as :=
  ⟨same_mut h.sm h.fp, h.fp, h.fc, h.fw, h.pc, h.pw, h.cw, ⟨_, upd_same, pair_snoc (Paired.mapP pr fun _ _ r => r.tx (tx_upd hf)) (hv.tx (tx_upd hf))⟩, by rw [upd_ne h.pc.symm]; exact h.cc, by rw [upd_ne h.pw.symm]; exact h.ww, h.aw.other fun z => (h.fr p z).2.1 rfl, h.nd, h.fr⟩
/-- both stacks popped -/
theorem PI.pop {a : Addr} {j : Nat} {u : Wd} (h : PI H H' p c W found ((j, u) :: st) (a :: as)) :
    PI H (upd (upd H' c (.lst ((st.map fun x => nv x.1).reverse))) W (.lst ((as.map V.ref).reverse))) p c W found st as := by
  cases h.aw with
  | cons r t =>
    have hc' : c ∉ as := fun z => (h.fr c (by simp [z])).2.2.1 rfl
    have hw' : W ∉ as := fun z => (h.fr W (by simp [z])).2.2.2 rfl
    exact ⟨same_mut (same_mut h.sm h.fc) h.fw, h.fp, h.fc, h.fw, h.pc, h.pw, h.cw, (h.pf.other h.cc h.pc).other (by rw [upd_ne h.cw.symm]; exact h.ww) h.pw, by rw [upd_ne h.cw, upd_same], upd_same, (LsAt.other t hc').other hw', (List.nodup_cons.mp h.nd).2, fun b hb => h.fr b (by simp [hb])⟩
/-- the last word longer -/
theorem PI.longer {a : Addr} {j s : Nat} {u : Wd} (h : PI H H' p c W found ((j, u) :: st) (a :: as)) : PI H (upd H' a (.lst (tw u ++ [nv s]))) p c W found ((j, u ++ [s]) :: st) (a :: as) := by
  cases h.aw with
  | cons r t =>
    obtain ⟨f1, f2, f3, f4⟩ := h.fr a (by simp)
    have na : a ∉ as := (List.nodup_cons.mp h.nd).1
    refine ⟨same_mut h.sm f1, h.fp, h.fc, h.fw, h.pc, h.pw, h.cw, h.pf.other r f2.symm, by rw [upd_ne f3.symm]; exact h.cc, by rw [upd_ne f4.symm]; exact h.ww, .cons ?_ (LsAt.other t na), h.nd, h.fr⟩
    rw [upd_same]
    unfold tw
    rw [List.map_append]
    rfl
/-- a call begins: the called one, an empty word -/
theorem PI.push {b : Addr} {j : Nat} (h : PI H H' p c W found st as) (hb : (upd H' c (.lst ((st.map fun x => nv x.1).reverse ++ [nv j]))) b = none) :
    PI H (upd (upd (upd H' c (.lst ((st.map fun x => nv x.1).reverse ++ [nv j]))) b (.lst [])) W (.lst ((as.map V.ref).reverse ++ [.ref b]))) p c W found ((j, []) :: st) (b :: as) := by
  have nbc : b ≠ c := fun z => by
    rw [z, upd_same] at hb
    cases hb
  have hb' : H' b = none := by
    rw [upd_ne nbc] at hb
    exact hb
  obtain ⟨vs, hp, _⟩ := h.pf
  have nbp : b ≠ p := (ne_of_none hp hb').symm
  have nbw : b ≠ W := (ne_of_none h.ww hb').symm
  have nba : b ∉ as := fun z => by
    obtain ⟨i, hi⟩ := List.mem_iff_getElem?.mp z
    have : ∀ {as : List Addr} {st : List Pt}, LsAt H' as st → ∀ a ∈ as, ∃ xs, H' a = some (.lst xs) := by
      intro as st q
      induction q with
      | nil => intro a ha; simp at ha
      | cons r t ih =>
        intro a ha
        rcases List.mem_cons.mp ha with e | e
        · rw [e]
          exact ⟨_, r⟩
        · exact ih a e
    obtain ⟨xs, e⟩ := this h.aw b z
    rw [hb'] at e
    cases e
  have hc' : c ∉ as := fun z => (h.fr c z).2.2.1 rfl
  have hw' : W ∉ as := fun z => (h.fr W z).2.2.2 rfl
  have hb0 : H b = none := h.sm.free hb'
  have s1 : Same H (upd (upd H' c (.lst ((st.map fun x => nv x.1).reverse ++ [nv j]))) b (.lst [])) := same_mut (same_mut h.sm h.fc) hb0
  refine ⟨same_mut s1 h.fw, h.fp, h.fc, h.fw, h.pc, h.pw, h.cw, ?_, ?_, ?_, .cons ?_ (((h.aw.other hc').other nba).other hw'), List.nodup_cons.mpr ⟨nba, h.nd⟩, fun a ha => ?_⟩
  · refine (((h.pf.other h.cc h.pc).mono (same_new (by rw [upd_ne nbc]; exact hb'))).other (ys := (as.map V.ref).reverse) ?_ h.pw)
    rw [upd_ne nbw.symm, upd_ne h.cw.symm]
    exact h.ww
  · rw [upd_ne h.cw, upd_ne nbc.symm, upd_same, List.map_cons, List.reverse_cons]
  · rw [upd_same, List.map_cons, List.reverse_cons]
  · rw [upd_ne nbw, upd_same]
    rfl
  · rcases List.mem_cons.mp ha with e | e
    · rw [e]
      exact ⟨hb0, nbp, nbc, nbw⟩
    · exact h.fr a e
end
section
variable {P : Program} {w : World} {K : PySem.W.Frag} {mg : Str → Option Value} {base : Heap} {CB CA CC : Addr}
def spParts : Sp := fun vs H Q _ => ∃ (n : Nat) (v : V) (u : Wd), vs = [nv 1, nv n, v] ∧ IsW H v u ∧ nestF n u 0 = true ∧ u.length ≤ 1000 ∧ ∀ p H', H p = none → Same H H' → IsParts H' p (partsF n u) → Q (.ref p) H'
theorem ok_parts (T : Txt K mg CB CA CC) : Good P w K mg base 2 "parts" ["plain", "helpers", "signs"] spParts := by
  refine T.parts.good sc_parts (fun vs H Q E h => ?_) (fun f cdv A outer s H vs Q E hr h => ?_)
  · obtain ⟨n, v, u, rfl, _⟩ := h
    rfl
  · obtain ⟨n, v, u, rfl, hv, hn, hz, k⟩ := h
    refine ⟨_, 
      (pss_cons (ps_if (pt_not (pt_val (pe_callG (ok_nested T) (hr.mono (by decide)) rfl (pa_cons (pv 0) (pa_cons (pv 1) (pa_cons (pv 2) pa_nil)))))) pss_never pss_nil)
      (pss_cons (ps_set (i := 3) sc_parts.nd rfl (Or.inl rfl) (pe_lst pa_nil))
      (pss_cons (ps_set (i := 4) sc_parts.nd rfl (Or.inl rfl) (pe_lst (pa_cons pe_int pa_nil)))
      (pss_cons (ps_set (i := 5) sc_parts.nd rfl (Or.inl rfl) (pe_lst (pa_cons (pe_lst pa_nil) pa_nil)))
      (pss_cons (ps_for PassesOwn.never rfl (pi_tup (pv 2)) (pg_name (i := 6) sc_parts.nd rfl (Or.inl rfl)) 
        (pss_one (ps_if (pt_cmpR op_eq (pv 6) (pe_op op_add (pv 0) (pv 1)) (nomark _)) 
          (pss_one (ps_expr (pe_bm PySem.F.plainAttrs_list PySem.F.slot_list_append PySem.F.type_list_append mt_append (pv 3) (pa_cons (pe_tupX (pa_cons (pe_bm0 PySem.F.plainAttrs_list PySem.F.slot_list_pop PySem.F.type_list_pop mt_pop (pv 4)) (pa_cons (pe_callTy call_tupleX (by rfl) T.no_tuple (by decide +kernel) (pa_cons (pe_bm0 PySem.F.plainAttrs_list PySem.F.slot_list_pop PySem.F.type_list_pop mt_pop (pv 5)) pa_nil)) pa_nil))) pa_nil)))) 
          (pss_cons (ps_expr (pe_bm PySem.F.plainAttrs_list PySem.F.slot_list_append PySem.F.type_list_append mt_append (pe_ix ix_list (pv 5) (pe_un un_neg pe_int) (fun _ _ => rfl)) (pa_cons (pv 6) pa_nil)))
          (pss_one (ps_if (pt_cmpR op_ge (pv 6) (pv 0) (nomark _)) 
            (pss_cons (ps_expr (pe_bm PySem.F.plainAttrs_list PySem.F.slot_list_append PySem.F.type_list_append mt_append (pv 4) (pa_cons (pe_op op_sub (pv 6) (pv 0)) pa_nil)))
            (pss_one (ps_expr (pe_bm PySem.F.plainAttrs_list PySem.F.slot_list_append PySem.F.type_list_append mt_append (pv 5) (pa_cons (pe_lst pa_nil) pa_nil))))) pss_nil))))))
      (pss_cons (ps_expr (pe_bm PySem.F.plainAttrs_list PySem.F.slot_list_append PySem.F.type_list_append mt_append (pv 3) (pa_cons (pe_tupX (pa_cons pe_int (pa_cons (pe_callTy call_tupleX (by rfl) T.no_tuple (by decide +kernel) (pa_cons (pe_ixLC (pv 5)) pa_nil)) pa_nil))) pa_nil)))
      (pss_one (ps_ret (pv 3))))))))), ?_⟩
    refine ⟨_, rfl, _, rfl, _, rfl, n, v, u, rfl, hv, hn, _, rfl, iteF ?_⟩
    refine ⟨Nat.zero_le _, fun p hp => ⟨by show 1 ≤ sizeLine; decide, fun c hc => ⟨Nat.zero_le _, fun a0 ha0 => ⟨by show 1 ≤ sizeLine; decide, fun W hW => ?_⟩⟩⟩⟩
    have npc : p ≠ c := fun z => by rw [← z, upd_same] at hc; cases hc
    have hc0 : H c = none := by rw [upd_ne npc.symm] at hc; exact hc
    have nca : c ≠ a0 := fun z => by rw [← z, upd_same] at ha0; cases ha0
    have npa : p ≠ a0 := fun z => by rw [← z, upd_ne npc, upd_same] at ha0; cases ha0
    have ha00 : H a0 = none := by rw [upd_ne nca.symm, upd_ne npa.symm] at ha0; exact ha0
    have naW : a0 ≠ W := fun z => by rw [← z, upd_same] at hW; cases hW
    have ncW : c ≠ W := fun z => by rw [← z, upd_ne nca, upd_same] at hW; cases hW
    have npW : p ≠ W := fun z => by rw [← z, upd_ne npa, upd_ne npc, upd_same] at hW; cases hW
    have hW0 : H W = none := by rw [upd_ne naW.symm, upd_ne ncW.symm, upd_ne npW.symm] at hW; exact hW
    have I0 : PI H (upd (upd (upd (upd H p (.lst [])) c (.lst [.int 0])) a0 (.lst [])) W (.lst [.ref a0])) p c W [] [(0, [])] [a0] :=
      ⟨same_mut (same_mut (same_mut (same_new hp) hc0) ha00) hW0, hp, hc0, hW0, npc, npW, ncW, ⟨[], by rw [upd_ne npW, upd_ne npa, upd_ne npc, upd_same], .nil⟩, by rw [upd_ne ncW, upd_ne nca, upd_same]; rfl, by rw [upd_same]; rfl, .cons (by rw [upd_ne naW, upd_same]; rfl) .nil, List.nodup_cons.mpr ⟨by simp, List.nodup_nil⟩, fun a ha => by
        rw [List.mem_singleton.mp ha]
        exact ⟨ha00, npa.symm, nca.symm, naW⟩⟩
    obtain ⟨b, rfl, hb⟩ := id hv
    refine ⟨_, rfl, b, rfl, ⟨_, SqT.of (I0.sm _ _ hb)⟩, for_tup (K := K) (a := b) (xs := tw u) (fun i σ H' => ∃ found st as x, PI H H' p c W found st as ∧ σ = [some (nv 1), some (nv n), some (.ref b), some (.ref p), some (.ref c), some (.ref W), x] ∧ 0 < st.length ∧ st.length ≤ 1 + i ∧ found.length ≤ i ∧ (∀ x ∈ st, x.2.length ≤ i) ∧ nestF n (u.drop i) (st.length - 1) = true ∧ partsGo n (u.drop i) found st = partsF n u)
      ⟨[], [(0, [])], [a0], none, I0, rfl, by simp, by simp, by simp, fun x hx => by rw [List.mem_singleton.mp hx]; simp, hn, rfl⟩ (fun i σ H' _ q => ?_) ?_ ?_⟩
    · obtain ⟨_, _, _, _, q, _⟩ := q
      exact SqT.of (q.sm _ _ hb)
    · rintro i x σ H1 hx ⟨found, st, as, x6, I, rfl, l0, l1, l2, l3, hn1, hp1⟩
      obtain ⟨z, hz1, rfl⟩ := tw_inv hx
      have il : i < u.length := (List.getElem?_eq_some_iff.mp hz1).1
      have hd : u.drop i = z :: u.drop (i + 1) := by
        rw [List.drop_eq_getElem_cons il]
        rw [List.getElem?_eq_getElem il] at hz1
        rw [Option.some.inj hz1]
      have lt : ∀ m, m ≤ 5000 → m < sizeLine := fun m h => Nat.lt_of_le_of_lt h (by decide)
      rw [hd, nestF] at hn1
      rw [hd] at hp1
      obtain ⟨⟨j, v⟩, st, rfl⟩ : ∃ x r, st = x :: r := by
        cases st with
        | nil => simp at l0
        | cons x r => exact ⟨x, r, rfl⟩
      simp only [partsGo] at hp1
      obtain ⟨a, as, rfl⟩ : ∃ a r, as = a :: r := by
        cases as with
        | nil => have := I.aw; cases this
        | cons a r => exact ⟨a, r, rfl⟩
      have ls : as.length = st.length := by
        have := Paired.length I.aw
        simpa using this
      have lst : st.length + 1 ≤ 1 + i := by simpa using l1
      have ha : H1 a = some (.lst (tw v)) := by
        have := I.aw
        cases this with
        | cons r t => exact r
      have lv : v.length ≤ i := l3 (j, v) (by simp)
      obtain ⟨f1, f2, f3, f4⟩ := I.fr a (by simp)
      refine ⟨_, rfl, _, rfl, _, rfl, _, _, rfl, rfl, rfl, _, rfl, ?_⟩
      rw [deI]
      by_cases h1 : z = 1 + n
      · rw [if_pos h1, Bool.and_eq_true, decide_eq_true_eq] at hn1
        rw [if_pos h1] at hp1
        rw [decide_eq_true (show (z : Int) = ((1 : Nat) : Int) + (n : Int) by omega)]
        obtain ⟨fv, hfv, pf⟩ := I.pf
        have hc1 := I.cc
        have hw1 := I.ww
        rw [List.map_cons] at hc1 hw1
        have I2 := I.pop
        refine iteT ⟨_, rfl, .inl ⟨rfl, _, SqL.of hfv⟩, _, rfl, .inl ⟨rfl, _, SqL.of hc1⟩, c, _, _, rfl, rfl, hc1, last_rev _ _, ?_⟩
        rw [dropLast_rev]
        have hw2 : (upd H1 c (.lst ((st.map fun x => nv x.1).reverse))) W = some (.lst ((V.ref a :: as.map V.ref).reverse)) := by
          rw [upd_ne I.cw.symm]
          exact hw1
        refine ⟨_, rfl, .inl ⟨rfl, _, SqL.of hw2⟩, W, _, _, rfl, rfl, hw2, last_rev _ _, ?_⟩
        rw [dropLast_rev]
        refine ⟨a, tw v, rfl, SqL.of (by rw [upd_ne f4, upd_ne f3]; exact ha), fun t H2 e2 ht => ⟨by show 2 ≤ sizeLine; decide, fun t2 H3 e3 ht2 => ?_⟩⟩
        have I3 := (I2.mono e2).mono e3
        obtain ⟨gv, hgv, pg⟩ := I3.pf
        have lg : gv.length = found.length := Paired.length pg
        refine ⟨p, gv, _, rfl, rfl, hgv, lt _ (by omega), ?_⟩
        refine ⟨found ++ [(j, v)], st, as, _, I3.more hgv pg ⟨t2, _, rfl, ht2, t, rfl, e3 _ _ ht⟩, rfl, ?_, ?_, ?_, fun x hx => Nat.le_succ_of_le (l3 x (by simp [hx])), ?_, hp1⟩
        · have := hn1.1
          simp only [List.length_cons] at this
          omega
        · simp only [List.length_cons] at l1
          omega
        · rw [List.length_append]
          simp
          omega
        · have := hn1.2
          simpa using this
      · rw [if_neg h1] at hn1 hp1
        rw [decide_eq_false (show ¬ (z : Int) = ((1 : Nat) : Int) + (n : Int) by omega)]
        have hw1 := I.ww
        rw [List.map_cons, List.reverse_cons] at hw1
        refine iteF ⟨_, rfl, _, rfl, rd_last hw1 ⟨.inl ⟨rfl, _, SqL.of ha⟩, _, rfl, a, _, _, rfl, rfl, ha, lt _ (by rw [tw_len]; omega), ?_⟩⟩
        have I2 := I.longer (s := z)
        by_cases h2 : 1 + n < z
        · rw [if_pos h2] at hn1
          cases hn1
        · rw [if_neg h2] at hn1
          refine ⟨_, rfl, _, rfl, _, _, rfl, rfl, _, rfl, ?_⟩
          by_cases h3 : 1 ≤ z
          · rw [if_pos h3] at hn1 hp1
            rw [decide_eq_true (show ((1 : Nat) : Int) ≤ (z : Int) by omega)]
            have hc2 := I2.cc
            have ez : (V.int ((z : Int) - ((1 : Nat) : Int))) = nv (z - 1) := by
              have : ((z : Int) - ((1 : Nat) : Int)) = ((z - 1 : Nat) : Int) := by omega
              rw [this]
            refine iteT ⟨_, rfl, .inl ⟨rfl, _, SqL.of hc2⟩, _, rfl, _, rfl, _, _, rfl, rfl, c, _, nv (z - 1), rfl, congrArg (fun q => [q]) ez, hc2, lt _ ?_, ?_⟩
            · rw [List.length_reverse, List.length_map]
              simp only [List.length_cons] at l1 ⊢
              omega
            · skip
              have hw2 : (upd (upd H1 a (.lst (tw v ++ [nv z]))) c (.lst (((((j, v ++ [z]) :: st).map fun x => nv x.1).reverse) ++ [nv (z - 1)]))) W = some (.lst (((a :: as).map V.ref).reverse)) := by
                rw [upd_ne I.cw.symm]
                exact I2.ww
              refine ⟨_, rfl, .inl ⟨rfl, _, SqL.of hw2⟩, Nat.zero_le _, fun b2 hb2 => ?_⟩
              have I3 := I2.push (j := z - 1) hb2
              refine ⟨W, _, _, rfl, rfl, same_new hb2 _ _ hw2, lt _ ?_, ?_⟩
              · rw [List.length_reverse, List.length_map, List.length_cons]
                omega
              · refine ⟨found, (z - 1, []) :: (j, v ++ [z]) :: st, b2 :: a :: as, _, I3, rfl, by simp, ?_, by omega, fun x hx => ?_, ?_, hp1⟩
                · simp only [List.length_cons]
                  omega
                · rcases List.mem_cons.mp hx with e | hx
                  · rw [e]
                    simp
                  · rcases List.mem_cons.mp hx with e | hx
                    · rw [e]
                      simp
                      omega
                    · exact Nat.le_succ_of_le (l3 x (by simp [hx]))
                · have e : st.length + 1 - 1 + 1 = st.length + 1 + 1 - 1 := by omega
                  simp only [List.length_cons] at hn1 ⊢
                  rw [e] at hn1
                  exact hn1
          · rw [if_neg h3] at hn1 hp1
            rw [decide_eq_false (show ¬ ((1 : Nat) : Int) ≤ (z : Int) by omega)]
            refine iteF ⟨found, (j, v ++ [z]) :: st, a :: as, _, I2, rfl, by simp, ?_, by omega, fun x hx => ?_, hn1, hp1⟩
            · simp only [List.length_cons]
              omega
            · rcases List.mem_cons.mp hx with e | hx
              · rw [e]
                simp
                omega
              · exact Nat.le_succ_of_le (l3 x (by simp [hx]))
    · rintro σ H1 ⟨found, st, as, x6, I, rfl, l0, l1, l2, l3, hn1, hp1⟩
      rw [tw_len] at l2
      rw [tw_len, List.drop_length, nestF, decide_eq_true_eq] at hn1
      rw [tw_len, List.drop_length, partsGo] at hp1
      obtain ⟨⟨j, v⟩, rfl⟩ : ∃ x, st = [x] := by
        match st, l0, hn1 with
        | [x], _, _ => exact ⟨x, rfl⟩
        | x :: y :: r, _, h => simp at h
      obtain ⟨a, rfl⟩ : ∃ a, as = [a] := by
        have := Paired.length I.aw
        match as, this with
        | [x], _ => exact ⟨x, rfl⟩
        | [], h => simp at h
        | x :: y :: r, h => simp at h
      have ha : H1 a = some (.lst (tw v)) := by
        have := I.aw
        cases this with
        | cons r t => exact r
      obtain ⟨fv, hfv, pf⟩ := I.pf
      have hw1 := I.ww
      refine ⟨_, rfl, .inl ⟨rfl, _, SqL.of hfv⟩, _, rfl, rd_lC (i := 0) hw1 rfl ⟨a, _, rfl, SqL.of ha, fun t H2 e2 ht => ⟨by show 2 ≤ sizeLine; decide, fun t2 H3 e3 ht2 => ?_⟩⟩⟩
      have I3 := (I.mono e2).mono e3
      obtain ⟨gv, hgv, pg⟩ := I3.pf
      have lg : gv.length = found.length := Paired.length pg
      refine ⟨p, gv, _, rfl, rfl, hgv, Nat.lt_of_le_of_lt (show gv.length ≤ 1000 by omega) (by decide), ?_⟩
      have I4 := I3.more hgv pg (x := (0, v)) ⟨t2, _, rfl, ht2, t, rfl, e3 _ _ ht⟩
      refine ⟨_, rfl, k p _ hp I4.sm ?_⟩
      have e : found ++ [(0, v)] = partsF n u := by
        rw [← hp1]
        rfl
      rw [← e]
      exact I4.pf
end
end Gr
namespace Gr
open PySem L2
/-! ### the law's own walk of rows -/
abbrev Sk := List (Nat × Nat)
def markAt (hs : List Hs) (j r : Nat) : Nat := match hs[j]? with
  | some h => h.marks.getD r 0
  | none => 0
def stepAt (hs : List Hs) (j r s : Nat) : Nat := match hs[j]? with
  | some h => stepH h r s
  | none => 0
def lawGo (hs : List Hs) : Wd → Sk → Bool
  | [], st => decide (markAt hs 0 ((st.getLast?.getD (0, 0)).2) ≠ 0)
  | s :: u, st => match st with
    | [] => false
    | (j, r) :: st' => if s = 1 + hs.length then (if markAt hs j r = 0 then false else lawGo hs u st')
      else if 1 ≤ s then lawGo hs u ((s - 1, 0) :: (j, stepAt hs j r s) :: st') else lawGo hs u ((j, stepAt hs j r s) :: st')
def botJ : Sk → Nat
  | [] => 0
  | [x] => x.1
  | _ :: y :: r => botJ (y :: r)
theorem botJ_cons (x : Nat × Nat) : ∀ st : Sk, 0 < st.length → botJ (x :: st) = botJ st
  | [], h => by simp at h
  | _ :: _, _ => rfl
theorem botJ_head (j r r' : Nat) : ∀ st : Sk, botJ ((j, r) :: st) = botJ ((j, r') :: st)
  | [] => rfl
  | _ :: _ => rfl
def lawTakes (hs : List Hs) (u : Wd) : Bool := lawGo hs u [(0, 0)]
def IsHl (H : Hp) (a : Addr) (hs : List Hs) : Prop := ∃ vs, H a = some (.lst vs) ∧ Paired (IsH H) vs hs
theorem IsHl.mono {H H' : Hp} {a : Addr} {hs : List Hs} (h : IsHl H a hs) (e : Same H H') : IsHl H' a hs := by
  obtain ⟨vs, h1, h2⟩ := h
  exact ⟨vs, e _ _ h1, Paired.mapP h2 fun _ _ q => q.mono e⟩
structure HsN (n : Nat) (hs : List Hs) : Prop where
  len : hs.length = n
  ok : ∀ h ∈ hs, HsOk h ∧ h.L = 1 + n
abbrev SkAt (H : Hp) : List Addr → Sk → Prop := Paired fun a x => H a = some (.lst [nv x.1, nv x.2])
theorem SkAt.other {H : Hp} {q : Addr} {o : HO} : ∀ {as : List Addr} {st : Sk}, SkAt H as st → q ∉ as → SkAt (upd H q o) as st
  | _, _, .nil, _ => .nil
  | _, _, .cons r t, h => .cons (by rw [upd_ne (fun z => h (by simp [z]))]; exact r) (SkAt.other t fun z => h (by simp [z]))
theorem SkAt.mem {H : Hp} {as : List Addr} {st : Sk} (q : SkAt H as st) : ∀ a ∈ as, ∃ xs, H a = some (.lst xs) := by
  induction q with
  | nil => intro a ha; simp at ha
  | cons r t ih =>
    intro a ha
    rcases List.mem_cons.mp ha with e | e
    · rw [e]
      exact ⟨_, r⟩
    · exact ih a e
structure SI (H H' : Hp) (S : Addr) (st : Sk) (as : List Addr) : Prop where
  sm : Same H H'
  fs : H S = none
  ss : H' S = some (.lst ((as.map V.ref).reverse))
  aw : SkAt H' as st
  nd : as.Nodup
  fr : ∀ a ∈ as, H a = none ∧ a ≠ S
section
variable {H H' : Hp} {S a : Addr} {st : Sk} {as : List Addr} {x : Nat × Nat}
theorem SI.pop (h : SI H H' S (x :: st) (a :: as)) : SI H (upd H' S (.lst ((as.map V.ref).reverse))) S st as := by
  cases h.aw with
  | cons r t =>
    have ns : S ∉ as := fun z => (h.fr S (by simp [z])).2 rfl
    exact ⟨same_mut h.sm h.fs, h.fs, upd_same, SkAt.other t ns, (List.nodup_cons.mp h.nd).2, fun b hb => h.fr b (by simp [hb])⟩
theorem SI.set {j r r' : Nat} (h : SI H H' S ((j, r) :: st) (a :: as)) : SI H (upd H' a (.lst [nv j, nv r'])) S ((j, r') :: st) (a :: as) := by
  cases h.aw with
  | cons q t =>
    obtain ⟨f1, f2⟩ := h.fr a (by simp)
    exact ⟨same_mut h.sm f1, h.fs, by rw [upd_ne f2.symm]; exact h.ss, .cons upd_same (SkAt.other t (List.nodup_cons.mp h.nd).1), h.nd, h.fr⟩
theorem SI.push {b : Addr} {j : Nat} (h : SI H H' S st as) (hb : H' b = none) : SI H (upd (upd H' b (.lst [nv j, nv 0])) S (.lst ((as.map V.ref).reverse ++ [.ref b]))) S ((j, 0) :: st) (b :: as) := by
  have nbs : b ≠ S := (ne_of_none h.ss hb).symm
  have nba : b ∉ as := fun z => by
    obtain ⟨xs, e⟩ := h.aw.mem b z
    rw [hb] at e
    cases e
  have ns : S ∉ as := fun z => (h.fr S z).2 rfl
  have hb0 := h.sm.free hb
  refine ⟨same_mut (same_mut h.sm hb0) h.fs, h.fs, by rw [upd_same, List.map_cons, List.reverse_cons], .cons (by rw [upd_ne nbs, upd_same]) ((SkAt.other h.aw nba).other ns), List.nodup_cons.mpr ⟨nba, h.nd⟩, fun c hc => ?_⟩
  rcases List.mem_cons.mp hc with e | e
  · rw [e]
    exact ⟨hb0, nbs⟩
  · exact h.fr c e
end
section
variable {P : Program} {w : World} {K : PySem.W.Frag} {mg : Str → Option Value} {base : Heap} {CB CA CC : Addr}
def spCellAt (K : PySem.W.Frag) : Sp := fun vs H Q _ => ∃ (a : Addr) (ns : List Int) (k : Nat), vs = [.ref a, nv k] ∧ SqL K H a (ns.map V.int) ∧ ∀ i : Int, Q (.int i) H
theorem ok_law_cell_at (T : Txt K mg CB CA CC) : Good P w K mg base 1 "_law_cell_at" ["script", "k"] (spCellAt K) := by
  refine T.law_cell_at.good sc_law_cell_at (fun vs H Q E h => ?_) (fun f cdv A outer s H vs Q E hr h => ?_)
  · obtain ⟨a, ns, k, rfl, _⟩ := h
    rfl
  · obtain ⟨a, ns, j, rfl, hs, k⟩ := h
    refine ⟨_, 
      (pss_cons (ps_if (pt_cmpR op_lt (pv 1) (pe_callB call_len_seq (by rfl) T.no_len PySem.boot_len (pa_cons (pv 0) pa_nil)) (nomark _)) 
        (pss_one (ps_ret (pe_ix ix_list (pv 0) (pv 1) (fun _ _ => rfl)))) pss_nil)
      (pss_one (ps_ret pe_int))), ?_⟩
    refine ⟨_, rfl, _, rfl, a, _, rfl, .inl hs, _, _, rfl, rfl, _, rfl, ?_⟩
    rw [List.length_map]
    by_cases hj : j < ns.length
    · rw [decide_eq_true (show (j : Int) < (ns.length : Int) by omega)]
      refine iteT ⟨_, rfl, _, rfl, a, _, _, _, rfl, rfl, hs, atI_nat (j := j) (v := .int ns[j]) ?_, k _⟩
      rw [List.getElem?_map, List.getElem?_eq_getElem hj]
      rfl
    · rw [decide_eq_false (show ¬ (j : Int) < (ns.length : Int) by omega)]
      exact iteF (k 0)

def spLawTakes : Sp := fun vs H Q _ => ∃ (n : Nat) (hl : Addr) (hs : List Hs) (v : V) (u : Wd), vs = [.ref hl, v] ∧ IsHl H hl hs ∧ HsN n hs ∧ 0 < n ∧ IsW H v u ∧ nestF n u 0 = true ∧ u.length ≤ 1000 ∧ ∀ H', Same H H' → Q (.bl (lawTakes hs u)) H'
theorem ok_law_takes (T : Txt K mg CB CA CC) : Good P w K mg base 1 "_law_takes" ["houses", "signs"] spLawTakes := by
  refine T.law_takes.good sc_law_takes (fun vs H Q E h => ?_) (fun f cdv A outer s H vs Q E hr h => ?_)
  · obtain ⟨n, hl, hs, v, u, rfl, _⟩ := h
    rfl
  · obtain ⟨n, hl, hs, v, u, rfl, hH, hN, hn0, hv, hn, hz, k⟩ := h
    refine ⟨_, 
      (pss_cons (ps_set (i := 2) sc_law_takes.nd rfl (Or.inl rfl) (pe_lst (pa_cons (pe_lst (pa_cons pe_int (pa_cons pe_int pa_nil))) pa_nil)))
      (pss_cons (ps_for PassesOwn.never rfl (pi_tup (pv 1)) (pg_name (i := 3) sc_law_takes.nd rfl (Or.inl rfl)) 
        (pss_one (ps_if (pt_cmpR op_eq (pv 3) (pe_op op_add pe_int (pe_callB call_len_seq (by rfl) T.no_len PySem.boot_len (pa_cons (pv 0) pa_nil))) (nomark _)) 
          (pss_cons (ps_asg (pe_bm0 PySem.F.plainAttrs_list PySem.F.slot_list_pop PySem.F.type_list_pop mt_pop (pv 2)) (pg_unl rfl (pgs_cons (pg_name (i := 4) sc_law_takes.nd rfl (Or.inl rfl)) (pgs_cons (pg_name (i := 5) sc_law_takes.nd rfl (Or.inl rfl)) pgs_nil))))
          (pss_one (ps_if (pt_cmpR op_eq (pe_ix ix_tup (pe_ixTC (pe_ix ix_list (pv 0) (pv 4) (fun _ _ => rfl))) (pv 5) (fun _ _ => rfl)) pe_int (nomark _)) 
            (pss_one (ps_ret pe_bl)) pss_nil))) 
          (pss_cons (ps_asg (pe_ix ix_tup (pe_ix ix_tup (pe_ixTC (pe_ix ix_list (pv 0) (pe_ixLC (pe_ix ix_list (pv 2) (pe_un un_neg pe_int) (fun _ _ => rfl))) (fun _ _ => rfl))) (pe_ixLC (pe_ix ix_list (pv 2) (pe_un un_neg pe_int) (fun _ _ => rfl))) (fun _ _ => rfl)) (pv 3) (fun _ _ => rfl)) (pg_sub (pe_ix ix_list (pv 2) (pe_un un_neg pe_int) (fun _ _ => rfl)) pe_int set_list))
          (pss_one (ps_if (pt_cmpR op_ge (pv 3) pe_int (nomark _)) 
            (pss_one (ps_expr (pe_bm PySem.F.plainAttrs_list PySem.F.slot_list_append PySem.F.type_list_append mt_append (pv 2) (pa_cons (pe_lst (pa_cons (pe_op op_sub (pv 3) pe_int) (pa_cons pe_int pa_nil))) pa_nil)))) pss_nil))))))
      (pss_one (ps_ret (pe_cmpR op_ne (pe_ix ix_tup (pe_ixTC (pe_ixLC (pv 0))) (pe_ixLC (pe_ixLC (pv 2))) (fun _ _ => rfl)) pe_int (nomark _)))))), ?_⟩
    have lN := hN.len
    refine ⟨by show 2 ≤ sizeLine; decide, fun a0 ha0 => ⟨by show 1 ≤ sizeLine; decide, fun S hS => ?_⟩⟩
    have naS : a0 ≠ S := fun z => by rw [← z, upd_same] at hS; cases hS
    have hS0 : H S = none := by rw [upd_ne naS.symm] at hS; exact hS
    have I0 : SI H (upd (upd H a0 (.lst [.int 0, .int 0])) S (.lst [.ref a0])) S [(0, 0)] [a0] :=
      ⟨same_mut (same_new ha0) hS0, hS0, upd_same, .cons (by rw [upd_ne naS, upd_same]; rfl) .nil, List.nodup_cons.mpr ⟨by simp, List.nodup_nil⟩, fun a ha => by
        rw [List.mem_singleton.mp ha]
        exact ⟨ha0, naS⟩⟩
    obtain ⟨b, rfl, hb⟩ := id hv
    refine ⟨_, rfl, b, rfl, ⟨_, SqT.of (I0.sm _ _ hb)⟩, for_tup (K := K) (a := b) (xs := tw u) (fun i σ H' => ∃ st as x3 x4 x5, SI H H' S st as ∧ σ = [some (.ref hl), some (.ref b), some (.ref S), x3, x4, x5] ∧ 0 < st.length ∧ st.length ≤ 1 + i ∧ (∀ x ∈ st, ∃ h, hs[x.1]? = some h ∧ x.2 < h.marks.length) ∧ botJ st = 0 ∧ nestF n (u.drop i) (st.length - 1) = true ∧ lawGo hs (u.drop i) st = lawTakes hs u)
      ⟨[(0, 0)], [a0], none, none, none, I0, rfl, by simp, by simp, fun x hx => ?_, rfl, hn, rfl⟩ (fun i σ H' _ q => ?_) ?_ ?_⟩
    · rw [List.mem_singleton.mp hx]
      have : 0 < hs.length := by omega
      exact ⟨hs[0], List.getElem?_eq_getElem this, (hN.ok _ (List.getElem_mem this)).1.pos⟩
    · obtain ⟨_, _, _, _, _, q, _⟩ := q
      exact SqT.of (q.sm _ _ hb)
    · rintro i x σ H1 hx ⟨st, as, x3, x4, x5, I, rfl, l0, l1, l3, l4, hn1, hp1⟩
      obtain ⟨z, hz1, rfl⟩ := tw_inv hx
      have il : i < u.length := (List.getElem?_eq_some_iff.mp hz1).1
      have hd : u.drop i = z :: u.drop (i + 1) := by
        rw [List.drop_eq_getElem_cons il]
        rw [List.getElem?_eq_getElem il] at hz1
        rw [Option.some.inj hz1]
      rw [hd, nestF] at hn1
      rw [hd] at hp1
      obtain ⟨⟨j, r⟩, st, rfl⟩ : ∃ x r, st = x :: r := by
        cases st with
        | nil => simp at l0
        | cons x r => exact ⟨x, r, rfl⟩
      simp only [lawGo] at hp1
      obtain ⟨a, as, rfl⟩ : ∃ a r, as = a :: r := by
        cases as with
        | nil => have := I.aw; cases this
        | cons a r => exact ⟨a, r, rfl⟩
      have ls : as.length = st.length := by
        have := Paired.length I.aw
        simpa using this
      have ha : H1 a = some (.lst [nv j, nv r]) := by
        have := I.aw
        cases this with
        | cons r t => exact r
      obtain ⟨h, hj, hr0⟩ := l3 (j, r) (by simp)
      have hj : hs[j]? = some h := hj
      obtain ⟨ho, hL⟩ := hN.ok h (List.mem_of_getElem? hj)
      obtain ⟨hvs, hhv, ph⟩ := hH.mono I.sm
      have lhv : hvs.length = hs.length := Paired.length ph
      obtain ⟨hv1, hhv1, hv2⟩ := pair_get ph hj
      have hw1 := I.ss
      rw [List.map_cons, List.reverse_cons] at hw1
      refine ⟨_, rfl, _, rfl, hl, hvs, rfl, .inl (SqL.of hhv), _, _, rfl, rfl, rfl, _, rfl, ?_⟩
      rw [deI]
      by_cases h1 : z = 1 + hs.length
      · rw [if_pos (by omega), Bool.and_eq_true, decide_eq_true_eq] at hn1
        rw [if_pos h1] at hp1
        rw [decide_eq_true (show (z : Int) = (1 : Int) + (hvs.length : Int) by omega)]
        have hw2 := I.ss
        rw [List.map_cons] at hw2
        have I2 := I.pop
        refine iteT ⟨_, rfl, .inl ⟨rfl, _, SqL.of hw2⟩, S, _, _, rfl, rfl, hw2, last_rev _ _, ?_⟩
        rw [dropLast_rev]
        have naS2 : a ≠ S := (I.fr a (by simp)).2
        obtain ⟨hvs2, hhv2, ph2⟩ := hH.mono I2.sm
        obtain ⟨hw, hhw1, hw3⟩ := pair_get ph2 hj
        refine ⟨a, _, rfl, SqL.of (by rw [upd_ne naS2]; exact ha), rfl, _, _, rfl, _, _, rfl, rfl, ?_⟩
        refine ⟨_, rfl, _, rfl, rd_l hhv2 hhw1 (rd_h1 hw3 fun mv hmv => ⟨_, rfl, rd_w hmv (ho.markGet hr0) ⟨rfl, _, rfl, ?_⟩⟩)⟩
        have em : markAt hs j r = h.marks.getD r 0 := by rw [markAt, hj]
        rw [deI]
        by_cases h0 : h.marks.getD r 0 = 0
        · rw [decide_eq_true (show ((h.marks.getD r 0 : Nat) : Int) = 0 by omega)]
          rw [em, if_pos h0] at hp1
          have := k (upd H1 S (.lst ((as.map V.ref).reverse))) I2.sm
          rw [← hp1] at this
          exact iteT this
        · rw [decide_eq_false (show ¬ ((h.marks.getD r 0 : Nat) : Int) = 0 by omega)]
          rw [em, if_neg h0] at hp1
          have lp : 0 < st.length := by
            have := hn1.1
            simp only [List.length_cons] at this
            omega
          refine iteF ⟨st, as, _, _, _, I2, rfl, ?_, ?_, fun x hx => l3 x (by simp [hx]), by rw [← l4, botJ_cons _ _ lp], ?_, hp1⟩
          · have := hn1.1
            simp only [List.length_cons] at this
            omega
          · simp only [List.length_cons] at l1
            omega
          · have := hn1.2
            simpa using this
      · rw [if_neg (by omega)] at hn1
        rw [if_neg h1] at hp1
        rw [decide_eq_false (show ¬ (z : Int) = (1 : Int) + (hvs.length : Int) by omega)]
        by_cases h2 : 1 + n < z
        · rw [if_pos h2] at hn1
          cases hn1
        · rw [if_neg h2] at hn1
          have es : stepAt hs j r z = stepH h r z := by rw [stepAt, hj]
          rw [es] at hp1
          obtain ⟨y, hy, hyl, hlt⟩ := ho.step hr0 (show z < h.L by omega)
          refine iteF ⟨_, rfl, _, rfl, _, rfl, rd_last hw1 (rd_lC (i := 0) ha rfl (rd_l hhv hhv1 (rd_h2 hv2 fun yv hyv => ⟨_, rfl, _, rfl, rd_last hw1 (rd_lC (i := 1) ha rfl (rd_t2 hyv hy fun rv hrv => ⟨_, rfl, rd_w hrv hyl ?_⟩))⟩)))⟩
          refine ⟨_, rfl, _, rfl, rd_last hw1 ⟨a, _, 1, 1, rfl, rfl, ha, rfl, ?_⟩⟩
          have I2 := I.set (r' := stepH h r z)
          refine ⟨_, rfl, _, _, rfl, rfl, _, rfl, ?_⟩
          by_cases h3 : 1 ≤ z
          · rw [if_pos h3] at hn1 hp1
            rw [decide_eq_true (show (1 : Int) ≤ (z : Int) by omega)]
            have hw2 := I2.ss
            refine iteT ⟨_, rfl, .inl ⟨rfl, _, SqL.of hw2⟩, _, rfl, _, _, rfl, rfl, (by show 2 ≤ sizeLine; decide), fun b2 hb2 => ?_⟩
            have ez : (V.int ((z : Int) - 1)) = nv (z - 1) := by
              have : ((z : Int) - 1) = ((z - 1 : Nat) : Int) := by omega
              rw [this]
            have I3 := I2.push (j := z - 1) hb2
            have e2 : ([V.int ((z : Int) - 1), V.int 0] : List V) = [nv (z - 1), nv 0] := by rw [ez]; rfl
            have gq : ∀ (o : HO) (hb2 : (upd H1 a (.lst [nv j, nv (stepH h r z)])) b2 = none), (upd (upd H1 a (.lst [nv j, nv (stepH h r z)])) b2 o) S = some (.lst (((a :: as).map V.ref).reverse)) := fun o hb2 => same_new hb2 _ _ hw2
            refine ⟨S, _, _, rfl, rfl, gq _ hb2, ?_, (z - 1, 0) :: (j, stepH h r z) :: st, b2 :: a :: as, _, _, _, ?_, rfl, by simp, ?_, fun x hx => ?_, by rw [botJ_cons _ _ (by simp), botJ_head _ _ r]; exact l4, ?_, hp1⟩
            · rw [List.length_reverse, List.length_map, List.length_cons]
              simp only [List.length_cons] at l1
              exact Nat.lt_of_le_of_lt (show as.length + 1 ≤ 2000 by omega) (by decide)
            · show SI H (upd (upd (upd H1 a (.lst [nv j, nv (stepH h r z)])) b2 (.lst [V.int ((z : Int) - 1), V.int 0])) S _) S _ _
              rw [e2]
              exact I3
            · simp only [List.length_cons] at l1 ⊢
              omega
            · rcases List.mem_cons.mp hx with e | hx
              · rw [e]
                have hzl : z - 1 < hs.length := by omega
                exact ⟨hs[z - 1], List.getElem?_eq_getElem hzl, (hN.ok _ (List.getElem_mem hzl)).1.pos⟩
              · rcases List.mem_cons.mp hx with e | hx
                · rw [e]
                  exact ⟨h, hj, hlt⟩
                · exact l3 x (by simp [hx])
            · have e : st.length + 1 - 1 + 1 = st.length + 1 + 1 - 1 := by omega
              simp only [List.length_cons] at hn1 ⊢
              rw [e] at hn1
              exact hn1
          · rw [if_neg h3] at hn1 hp1
            rw [decide_eq_false (show ¬ (1 : Int) ≤ (z : Int) by omega)]
            refine iteF ⟨(j, stepH h r z) :: st, a :: as, _, _, _, I2, rfl, by simp, ?_, fun x hx => ?_, by rw [botJ_head _ _ r]; exact l4, hn1, hp1⟩
            · simp only [List.length_cons] at l1 ⊢
              omega
            · rcases List.mem_cons.mp hx with e | hx
              · rw [e]
                exact ⟨h, hj, hlt⟩
              · exact l3 x (by simp [hx])
    · rintro σ H1 ⟨st, as, x3, x4, x5, I, rfl, l0, l1, l3, l4, hn1, hp1⟩
      rw [tw_len, List.drop_length, nestF, decide_eq_true_eq] at hn1
      rw [tw_len, List.drop_length] at hp1
      obtain ⟨⟨j, r⟩, rfl⟩ : ∃ x, st = [x] := by
        match st, l0, hn1 with
        | [x], _, _ => exact ⟨x, rfl⟩
        | x :: y :: r, _, h => simp at h
      obtain rfl : j = 0 := l4
      obtain ⟨a, rfl⟩ : ∃ a, as = [a] := by
        have := Paired.length I.aw
        match as, this with
        | [x], _ => exact ⟨x, rfl⟩
        | [], h => simp at h
        | x :: y :: r, h => simp at h
      have ha : H1 a = some (.lst [nv 0, nv r]) := by
        have := I.aw
        cases this with
        | cons r t => exact r
      obtain ⟨h, hj, hr0⟩ := l3 (0, r) (by simp)
      have hj : hs[0]? = some h := hj
      obtain ⟨ho, hL⟩ := hN.ok h (List.mem_of_getElem? hj)
      obtain ⟨hvs, hhv, ph⟩ := hH.mono I.sm
      obtain ⟨hv1, hhv1, hv2⟩ := pair_get ph hj
      have hw1 := I.ss
      refine ⟨_, rfl, rd_lC (i := 0) hhv hhv1 (rd_h1 hv2 fun mv hmv => ⟨_, rfl, rd_lC (i := 0) hw1 rfl (rd_lC (i := 1) ha rfl (rd_w hmv (ho.markGet hr0) ⟨rfl, ?_⟩))⟩)⟩
      have := k H1 I.sm
      rw [← hp1] at this
      have e : lawGo hs [] [(0, r)] = !decide (V.int ((h.marks.getD r 0 : Nat) : Int) = V.int 0) := by
        show decide (markAt hs 0 r ≠ 0) = _
        rw [deI, markAt, hj]
        simp only
        rw [Bool.eq_iff_iff]
        simp
      rw [e] at this
      exact this
end
end Gr
namespace Gr
open PySem L2
/-! ### operators on numbers that are not below nought -/
def rAddN : R2 := fun x y H Q => ∃ a b : Nat, x = nv a ∧ y = nv b ∧ Q (nv (a + b)) H
def rMulN : R2 := fun x y H Q => ∃ a b : Nat, x = nv a ∧ y = nv b ∧ b ≤ 1000 ∧ Q (nv (a * b)) H
def rDivN : R2 := fun x y H Q => ∃ a b : Nat, x = nv a ∧ y = nv b ∧ 0 < b ∧ b ≤ 1000 ∧ Q (nv (a / b)) H
/-- any whole number by one above nought -/
def rModN : R2 := fun x y H Q => ∃ (i : Int) (b : Nat), x = .int i ∧ y = nv b ∧ 0 < b ∧ ∀ d : Nat, d < b → i % (b : Int) = (d : Int) → Q (nv d) H
section
variable {X : Cx}
theorem op_addN : OpR X (binaryOp .Add) rAddN := by
  intro pins s σ H x y v u Q I rx ry h
  obtain ⟨a, b, rfl, rfl, q⟩ := h
  exact op_add pins s σ H _ _ v u Q I rx ry ⟨a, b, rfl, rfl, q⟩
theorem op_mulN : OpR X (binaryOp .Mult) rMulN := by
  intro pins s σ H x y v u Q I rx ry h
  obtain ⟨a, b, rfl, rfl, hb, q⟩ := h
  refine op_mul pins s σ H _ _ v u Q I rx ry ⟨a, b, rfl, rfl, .inr ⟨by omega, by omega⟩, ?_⟩
  have e : (nv (a * b)) = V.int ((a : Int) * (b : Int)) := by
    show V.int (((a * b : Nat) : Int)) = _
    rw [Int.natCast_mul]
  rw [e] at q
  exact q
theorem op_divN : OpR X (binaryOp .FloorDiv) rDivN := by
  intro pins s σ H x y v u Q I rx ry h
  obtain ⟨a, b, rfl, rfl, h0, h1, q⟩ := h
  refine op_fdiv pins s σ H _ _ v u Q I rx ry ⟨a, b, rfl, rfl, ⟨by omega, by omega⟩, ?_⟩
  have e : (nv (a / b)) = V.int ((a : Int) / (b : Int)) := by
    show V.int (((a / b : Nat) : Int)) = _
    rw [Int.natCast_ediv]
  rw [e] at q
  exact q
theorem op_modN1 : OpR X (binaryOp .Mod) rModN := by
  intro pins s σ H x y v u Q I rx ry h
  obtain ⟨i, b, rfl, rfl, h0, q⟩ := h
  refine op_mod pins s σ H _ _ v u Q I rx ry ⟨i, b, rfl, rfl, (by show (0 : Int) < (b : Int); omega), ?_⟩
  have h1 : 0 ≤ i % (b : Int) := Int.emod_nonneg _ (by omega)
  have h2 : i % (b : Int) < (b : Int) := Int.emod_lt_of_pos _ (by omega)
  have e : i % (b : Int) = (((i % (b : Int)).toNat : Nat) : Int) := by omega
  have := q (i % (b : Int)).toNat (by omega) e
  have e2 : (nv (i % (b : Int)).toNat) = V.int (i % (b : Int)) := by
    show V.int (((i % (b : Int)).toNat : Nat) : Int) = _
    rw [← e]
  rw [e2] at this
  exact this
/-! ### list(..), tuple(..) by the written part -/
def rTupK (K : PySem.W.Frag) : List V → Hp → VK → Prop := fun xs H Q => ∃ p ys, xs = [.ref p] ∧ SqL K H p ys ∧ ∀ q H', Same H H' → H' q = some (.tup ys) → Q (.ref q) H'
theorem call_tupK : CallR X (.type "tuple") (rTupK X.K) := call_tupleX
def rLstK (K : PySem.W.Frag) : List V → Hp → VK → Prop := fun xs H Q => ∃ p ys, xs = [.ref p] ∧ (SqL K H p ys ∨ SqT K H p ys) ∧ ∀ l, H l = none → Q (.ref l) (upd H l (.lst ys))
theorem call_lstK : CallR X (.type "list") (rLstK X.K) := call_list_of
end
/-! ### enumerate -/
theorem for_enumX {K : PySem.W.Frag} {a : Addr} {xs : List V} {g : TG} {tb : TS} {D : Ends} {σ : L2.St} {H : Hp} (Pv : Nat → L2.St → Hp → Prop) (h0 : Pv 0 σ H) (hl : ∀ i σ H, i ≤ xs.length → Pv i σ H → SqL K H a xs)
    (hs : ∀ i x T σ H, xs[i]? = some x → Pv i σ H → H T = none → g (.ref T) σ (upd H T (.tup [nv i, x])) fun σ2 H2 => tb { D with nx := Pv (i + 1), ct := Pv (i + 1), bk := D.nx } σ2 H2) (hd : ∀ σ H, Pv xs.length σ H → D.nx σ H) :
    ∃ W : Nat → Nat → L2.St → Hp → Prop, (∃ m, W 0 m σ H) ∧ ∀ i m σ H, W i m σ H →
      ((Ite K a).stop i H ∧ D.nx σ H) ∨ ((Ite K a).go i H ∧ ∃ N : L2.St → Hp → Prop, (∀ σ' H', N σ' H' → ∃ m', m' < m ∧ W (i + 1) m' σ' H') ∧ ∀ x H', (Ite K a).yld i H x H' → g x σ H' fun σ2 H2 => tb { D with nx := N, ct := N, bk := D.nx } σ2 H2) := by
  refine ⟨fun i m σ H => m = xs.length - i ∧ i ≤ xs.length ∧ Pv i σ H, ⟨xs.length, by simp, Nat.zero_le _, h0⟩, ?_⟩
  rintro i m σ H ⟨rfl, hi, p⟩
  have q := hl i σ H hi p
  by_cases hlt : i < xs.length
  · refine .inr ⟨⟨xs, xs[i], q, by simp [hlt]⟩, Pv (i + 1), fun σ' H' p' => ⟨xs.length - (i + 1), by omega, rfl, hlt, p'⟩, fun x H' y => ?_⟩
    obtain ⟨T, z, rfl, hT, rfl, hz⟩ := y
    exact hs i z T σ H (hz xs q) p hT
  · have e : i = xs.length := by omega
    subst e
    exact .inl ⟨⟨xs, q, Nat.le_refl _⟩, hd σ H p⟩
/-! ### slices of lists of numbers -/
theorem cut_nat (xs : List V) {a b : Nat} (h1 : a ≤ b) (h2 : b ≤ xs.length) : cutV xs (some (a : Int)) (some (b : Int)) = (xs.drop a).take (b - a) := by
  unfold cutV
  have e1 : min a xs.length = a := Nat.min_eq_left (by omega)
  have e2 : min b xs.length = b := Nat.min_eq_left h2
  simp only [HT.sIx_nat, e1, e2]
theorem tw_drop (w : Wd) (a b : Nat) : ((tw w).drop a).take b = tw ((w.drop a).take b) := by
  unfold tw
  rw [List.map_take, List.map_drop]
/-! ### a list of lists of numbers, being made -/
abbrev RwAt (H : Hp) : List Addr → List Wd → Prop := Paired fun a y => H a = some (.lst (tw y))
theorem RwAt.other {H : Hp} {q : Addr} {o : HO} : ∀ {as : List Addr} {st : List Wd}, RwAt H as st → q ∉ as → RwAt (upd H q o) as st
  | _, _, .nil, _ => .nil
  | _, _, .cons r t, h => .cons (by rw [upd_ne (fun z => h (by simp [z]))]; exact r) (RwAt.other t fun z => h (by simp [z]))
theorem RwAt.mem {H : Hp} {as : List Addr} {st : List Wd} (q : RwAt H as st) : ∀ a ∈ as, ∃ xs, H a = some (.lst xs) := by
  induction q with
  | nil => intro a ha; simp at ha
  | cons r t ih =>
    intro a ha
    rcases List.mem_cons.mp ha with e | e
    · rw [e]
      exact ⟨_, r⟩
    · exact ih a e
structure WI (H H' : Hp) (W : Addr) (as : List Addr) (ys : List Wd) : Prop where
  sm : Same H H'
  fw : H W = none
  ww : H' W = some (.lst (as.map V.ref))
  aw : RwAt H' as ys
  nd : as.Nodup
  fr : ∀ a ∈ as, H a = none ∧ a ≠ W
theorem WI.mono {H H' H2 : Hp} {W : Addr} {as : List Addr} {ys : List Wd} (h : WI H H' W as ys) (e : Same H' H2) : WI H H2 W as ys :=
  ⟨h.sm.trans e, h.fw, e _ _ h.ww, Paired.mapP h.aw fun _ _ q => e _ _ q, h.nd, h.fr⟩
/-- a row more, a new list -/
theorem WI.push {H H' H2 : Hp} {W b : Addr} {as : List Addr} {ys : List Wd} {y : Wd} (h : WI H H' W as ys) (e : Same H' H2) (hb : H' b = none) (hb2 : H2 b = some (.lst (tw y))) : WI H (upd H2 W (.lst (as.map V.ref ++ [.ref b]))) W (as ++ [b]) (ys ++ [y]) := by
  have h2 := h.mono e
  have nbw : b ≠ W := (ne_of_none h.ww hb).symm
  have nba : b ∉ as := fun z => by
    obtain ⟨xs, q⟩ := h.aw.mem b z
    rw [hb] at q
    cases q
  have ns : W ∉ as := fun z => (h.fr W z).2 rfl
  refine ⟨same_mut h2.sm h.fw, h.fw, by rw [upd_same, List.map_append]; rfl, ?_, ?_, fun c hc => ?_⟩
  · have r1 : RwAt (upd H2 W (.lst (as.map V.ref ++ [.ref b]))) as ys := RwAt.other h2.aw ns
    have snoc : ∀ {as : List Addr} {ys : List Wd} {G : Hp}, RwAt G as ys → G b = some (.lst (tw y)) → RwAt G (as ++ [b]) (ys ++ [y]) := by
      intro as ys G q hG
      induction q with
      | nil => exact .cons hG .nil
      | cons r t ih => exact .cons r ih
    exact snoc r1 (by rw [upd_ne nbw]; exact hb2)
  · exact nd_snoc h.nd nba
  · rcases List.mem_append.mp hc with q | q
    · exact h.fr c q
    · rw [List.mem_singleton.mp q]
      exact ⟨h.sm.free hb, nbw⟩
theorem RwAt.get {H : Hp} : ∀ {as : List Addr} {ys : List Wd} {i : Nat} {y : Wd}, RwAt H as ys → ys[i]? = some y → ∃ a, as[i]? = some a ∧ H a = some (.lst (tw y))
  | _, _, _, _, .nil, e => by simp at e
  | _, _, 0, _, .cons r _, e => by
    simp at e
    subst e
    exact ⟨_, rfl, r⟩
  | _, _, i + 1, _, .cons _ t, e => by
    obtain ⟨a, h1, h2⟩ := RwAt.get (i := i) t (by simpa using e)
    exact ⟨a, by simpa using h1, h2⟩
/-- an entry of a row is stored -/
theorem RwAt.set {H : Hp} {z : Wd} : ∀ {as : List Addr} {ys : List Wd} {i : Nat} {a : Addr}, RwAt H as ys → as.Nodup → as[i]? = some a → RwAt (upd H a (.lst (tw z))) as (ys.set i z)
  | _, _, _, _, .nil, _, e => by simp at e
  | b :: _, _, 0, a, .cons r t, nd, e => by
    simp at e
    subst e
    exact .cons upd_same (RwAt.other t (List.nodup_cons.mp nd).1)
  | b :: as, _, i + 1, a, .cons r t, nd, e => by
    have e' : as[i]? = some a := by simpa using e
    have hm : a ∈ as := List.mem_of_getElem? e'
    have nb : b ≠ a := fun q => (List.nodup_cons.mp nd).1 (by rw [q]; exact hm)
    exact .cons (by rw [upd_ne nb]; exact r) (RwAt.set t (List.nodup_cons.mp nd).2 e')
theorem WI.set {H H' : Hp} {W a : Addr} {as : List Addr} {ys : List Wd} {i : Nat} {z : Wd} (h : WI H H' W as ys) (ha : as[i]? = some a) : WI H (upd H' a (.lst (tw z))) W as (ys.set i z) := by
  obtain ⟨f1, f2⟩ := h.fr a (List.mem_of_getElem? ha)
  exact ⟨same_mut h.sm f1, h.fw, by rw [upd_ne f2.symm]; exact h.ww, h.aw.set h.nd ha, h.nd, h.fr⟩
theorem WI.len {H H' : Hp} {W : Addr} {as : List Addr} {ys : List Wd} (h : WI H H' W as ys) : as.length = ys.length := Paired.length h.aw
theorem tw_set (w : Wd) (i x : Nat) : (tw w).set i (nv x) = tw (w.set i x) := by
  unfold tw
  rw [List.map_set]
/-- an older list is stored into -/
theorem WI.put {H H' : Hp} {W q : Addr} {as : List Addr} {ys : List Wd} {o o' : HO} (h : WI H H' W as ys) (hq : H q = some o) : WI (upd H q o') (upd H' q o') W as ys := by
  have nW : W ≠ q := fun z => by
    have := h.fw
    rw [z, hq] at this
    cases this
  have na : q ∉ as := fun z => by
    have := (h.fr q z).1
    rw [hq] at this
    cases this
  refine ⟨fun b u e => ?_, by rw [upd_ne nW]; exact h.fw, by rw [upd_ne nW]; exact h.ww, h.aw.other na, h.nd, fun a ha => ⟨?_, (h.fr a ha).2⟩⟩
  · by_cases z : b = q
    · subst z
      rw [upd_same] at e ⊢
      exact e
    · rw [upd_ne z] at e ⊢
      exact h.sm _ _ e
  · rw [upd_ne (fun z => na (by rw [← z]; exact ha))]
    exact (h.fr a ha).1
theorem lc_tupX {K : PySem.W.Frag} {a : Addr} {xs : List V} {g : TG} {te : TE} {vs : List Nat} {σ : L2.St} {H1 : Hp} {D : Addr} {Qd : Hp → Prop} (Pv : Nat → Hp → Prop) (h0 : Pv 0 (upd H1 D (.lst []))) (hl : ∀ i H, i ≤ xs.length → Pv i H → SqT K H a xs)
    (hs : ∀ i x H, xs[i]? = some x → Pv i H → g x (wipe σ vs) H fun σ2 H2 => wipe σ2 vs = wipe σ vs ∧ te σ2 H2 fun y H4 => ∃ acc, H4 D = some (.lst acc) ∧ acc.length < sizeLine ∧ Pv (i + 1) (upd H4 D (.lst (acc ++ [y])))) (hd : ∀ H, Pv xs.length H → Qd H) :
    ∃ W : Nat → Nat → Hp → Prop, (∃ m, W 0 m (upd H1 D (.lst []))) ∧ ∀ i m H, W i m H →
      ((Itt K a).stop i H ∧ Qd H) ∨ ((Itt K a).go i H ∧ ∃ Nx : Hp → Prop, (∀ H', Nx H' → ∃ m', m' < m ∧ W (i + 1) m' H') ∧ ∀ x H', (Itt K a).yld i H x H' → g x (wipe σ vs) H' fun σ2 H2 => wipe σ2 vs = wipe σ vs ∧ tYes σ2 H2 fun b H3 =>
        if b = true then te σ2 H3 fun y H4 => ∃ acc, H4 D = some (.lst acc) ∧ acc.length < sizeLine ∧ Nx (upd H4 D (.lst (acc ++ [y]))) else Nx H3) :=
  lc_tup (tt := tYes) Pv h0 hl (fun i x H hx p => hs i x H hx p) hd
end Gr
namespace Gr
open PySem L2
/-- a house like another -/
structure Like (g o : Hs) : Prop where
  L : o.L = g.L
  rooms : o.marks.length = g.marks.length
  ok : HsOk o
theorem HsOk.ways_set {g : Hs} (o : HsOk g) {mk : Wd} {ys : List Wd} (h1 : mk.length = g.marks.length) (h2 : ∀ m ∈ mk, m ≤ 1) (h3 : ys.length = g.ways.length) (h4 : ∀ y ∈ ys, y.length = g.L ∧ ∀ x ∈ y, x < g.marks.length) : HsOk ⟨g.L, mk, ys⟩ :=
  ⟨by show ys.length = mk.length; rw [h3, h1]; exact o.rows, by show 0 < mk.length; rw [h1]; exact o.pos, by show mk.length ≤ 2; rw [h1]; exact o.two, fun y hy => by show y.length = g.L ∧ ∀ x ∈ y, x < mk.length; rw [h1]; exact h4 y hy, h2, o.few⟩
theorem set_mem {α : Type} {l : List α} {i : Nat} {z : α} {P : α → Prop} (h : ∀ x ∈ l, P x) (hz : P z) : ∀ x ∈ l.set i z, P x := fun x hx => by
  rcases List.mem_or_eq_of_mem_set hx with q | q
  · exact h x q
  · rw [q]; exact hz
theorem sqL_same {K : PySem.W.Frag} {H H' : Hp} {a : Addr} {xs : List V} (h : SqL K H a xs) (e : Same H H') : SqL K H' a xs :=
  h.elim (fun h => .inl (h.elim (fun h => .inl (e _ _ h)) fun ⟨o, h⟩ => .inr ⟨o, e _ _ h⟩)) fun h => .inr h
theorem ixn {n i : Nat} (h : i < n) : ixN n (i : Int) = some i := by
  unfold ixN
  simp [h]
section
variable {P : Program} {w : World} {K : PySem.W.Frag} {mg : Str → Option Value} {base : Heap} {CB CA CC : Addr}
def spOthers (K : PySem.W.Frag) : Sp := fun vs H Q _ => ∃ (n : Nat) (x a : Addr) (hv : List V) (gs : List Hs) (ns : List Int), vs = [.ref x, .ref a] ∧ H x = some (.tup hv) ∧ Paired (IsH H) hv gs ∧ HsN n gs ∧ n ≤ 3 ∧ SqL K H a (ns.map V.int) ∧
  ∀ (os : List Hs) (p : Addr) (H' : Hp), Same H H' → IsHl H' p os → os.length = gs.length → (∀ (j : Nat) (g o : Hs), gs[j]? = some g → os[j]? = some o → Like g o) → Q (.ref p) H'
theorem ok_law_others (T : Txt K mg CB CA CC) : Good P w K mg base 2 "_law_others" ["houses", "script"] (spOthers K) := by
  refine T.law_others.good sc_law_others (fun vs H Q E h => ?_) (fun f cdv A outer s H vs Q E hr h => ?_)
  · obtain ⟨n, x, a, hv, gs, ns, rfl, _⟩ := h
    rfl
  · obtain ⟨n, x, a, hv, gs, ns, rfl, hx, pg, gN, hn, hs, k⟩ := h
    refine ⟨_, 
      (pss_cons (ps_set (i := 2) sc_law_others.nd rfl (Or.inl rfl) (pe_lst pa_nil))
      (pss_cons (ps_for PassesOwn.never rfl (pi_range1 (by rfl) T.no_range (pa_cons (pe_callB call_len_seq (by rfl) T.no_len PySem.boot_len (pa_cons (pv 0) pa_nil)) pa_nil)) (pg_name (i := 3) sc_law_others.nd rfl (Or.inl rfl)) 
        (pss_cons (ps_set (i := 4) sc_law_others.nd rfl (Or.inl rfl) (pe_op op_modN1 (pe_callG (ok_law_cell_at T) (hr.mono (by decide)) rfl (pa_cons (pv 1) (pa_cons (pe_op op_addN pe_int (pv 3)) pa_nil))) (pe_op op_pow pe_int pe_int)))
        (pss_cons (ps_asg (pe_ix ix_tup (pv 0) (pv 3) (fun _ _ => rfl)) (pg_tup rfl (pgs_cons (pg_name (i := 5) sc_law_others.nd rfl (Or.inl rfl)) (pgs_cons (pg_name (i := 6) sc_law_others.nd rfl (Or.inl rfl)) (pgs_cons (pg_name (i := 7) sc_law_others.nd rfl (Or.inl rfl)) pgs_nil)))))
        (pss_cons (ps_set (i := 8) sc_law_others.nd rfl (Or.inl rfl) (pe_callB call_len_seq (by rfl) T.no_len PySem.boot_len (pa_cons (pv 6) pa_nil)))
        (pss_cons (ps_set (i := 6) sc_law_others.nd rfl (Or.inl rfl) (pe_callTy call_lstK (by rfl) T.no_list (by decide +kernel) (pa_cons (pv 6) pa_nil)))
        (pss_cons (ps_setLc (i := 7) (own := [("row", 10)]) (g := gName 10) (te := tCB (rLstK K) (tCons (tVar 10) tNil)) (by rfl) sc_law_others.nd rfl rfl (sw_true rfl rfl rfl (by decide +kernel)) (pi_tup (pv 7)) (blkOk_by (own := [("row", 10)]) (N := ["houses", "script", "some", "j", "cell", "letters", "marks", "ways", "rooms", "room", "row"]) (sc := defScope s_law_others) (by decide +kernel)) (fun _ _ _ _ _ => pg_name (i := 10) sc_law_others.nd rfl (Or.inl rfl)) (fun _ _ _ _ _ => pts_nil) (fun _ _ _ _ _ => (pe_callTy call_lstK (by rfl) T.no_list (by decide +kernel) (pa_cons (pv 10) pa_nil))))
        (pss_cons (ps_set (i := 9) sc_law_others.nd rfl (Or.inl rfl) (pe_op op_modN1 (pe_op op_divN (pv 4) pe_int) (pv 8)))
        (pss_cons (ps_if (pt_cmpR op_eq (pe_op op_modN1 (pv 4) pe_int) pe_int (nomark _)) 
          (pss_one (ps_asg (pe_op op_modN1 (pe_op op_divN (pv 4) pe_int) pe_int) (pg_sub (pv 6) (pv 9) set_list))) pss_nil)
        (pss_cons (ps_if (pt_cmpR op_eq (pe_op op_modN1 (pv 4) pe_int) pe_int (nomark _)) 
          (pss_one (ps_asg (pe_op op_modN1 (pe_op op_divN (pv 4) pe_int) (pv 8)) (pg_sub (pe_ix ix_list (pv 7) (pv 9) (fun _ _ => rfl)) (pe_op op_modN1 (pe_op op_divN (pv 4) pe_int) (pv 5)) set_list))) pss_nil)
        (pss_one (ps_expr (pe_bm PySem.F.plainAttrs_list PySem.F.slot_list_append PySem.F.type_list_append mt_append (pv 2) (pa_cons (pe_tupX (pa_cons (pv 5) (pa_cons (pe_callTy call_tupK (by rfl) T.no_tuple (by decide +kernel) (pa_cons (pv 6) pa_nil)) (pa_cons (pe_callTy call_tupK (by rfl) T.no_tuple (by decide +kernel) (pa_cons (pe_lc (own := [("row", 10)]) (g := gName 10) (te := tCB (rTupK K) (tCons (tVar 10) tNil)) (by rfl) sc_law_others.nd (pi_list (pv 7)) (blkOk_by (own := [("row", 10)]) (N := ["houses", "script", "some", "j", "cell", "letters", "marks", "ways", "rooms", "room", "row"]) (sc := defScope s_law_others) (by decide +kernel)) (fun _ _ _ _ _ => pg_name (i := 10) sc_law_others.nd rfl (Or.inl rfl)) (fun _ _ _ _ _ => pts_nil) (fun _ _ _ _ _ => (pe_callTy call_tupK (by rfl) T.no_tuple (by decide +kernel) (pa_cons (pv 10) pa_nil)))) pa_nil)) pa_nil)))) pa_nil)))))))))))))
      (pss_one (ps_ret (pv 2))))), ?_⟩
    have lg : hv.length = n := by rw [Paired.length pg, gN.len]
    refine ⟨Nat.zero_le _, fun S hS => ?_⟩
    have hxs := same_new (o := .lst []) hS _ _ hx
    refine ⟨_, rfl, x, hv, rfl, .inr (SqT.of hxs), _, rfl, by omega, by omega, for_range (lo := 0) (n := hv.length) (fun i σ H' => Same H H' ∧ (∃ os, IsHl H' S os ∧ os.length = i ∧ ∀ (j : Nat) (g o : Hs), gs[j]? = some g → os[j]? = some o → Like g o) ∧ ∃ x3 x4 x5 x6 x7 x8 x9 x10, σ = [some (.ref x), some (.ref a), some (.ref S), x3, x4, x5, x6, x7, x8, x9, x10])
      ⟨same_new hS, ⟨[], ⟨[], upd_same, .nil⟩, rfl, fun j g o _ h => by simp at h⟩, _, _, _, _, _, _, _, _, rfl⟩ ?_ ?_⟩
    · rintro i σ H1 hi ⟨s1, ⟨os, ⟨ov, hov, po⟩, lo, ho⟩, x3, x4, x5, x6, x7, x8, x9, x10, rfl⟩
      have e0 : (0 : Int) + (i : Int) = ((i : Nat) : Int) := Int.zero_add _
      rw [e0]
      obtain ⟨g, gj⟩ : ∃ g, gs[i]? = some g := ⟨gs[i]'(by rw [gN.len]; omega), List.getElem?_eq_getElem _⟩
      obtain ⟨gv, hgv, hgh⟩ := pair_get pg gj
      obtain ⟨og, oL⟩ := gN.ok g (List.mem_of_getElem? gj)
      obtain ⟨ga, mv, yv, rfl, hga, hmv, hyv⟩ := hgh.mono s1
      obtain ⟨ma, rfl, hma⟩ := hmv
      obtain ⟨ya, yvs, rfl, hya, py⟩ := hyv
      refine ⟨_, rfl, _, rfl, 1, i, rfl, rfl, a, ns, 1 + i, rfl, sqL_same hs s1, fun c => ⟨_, _, rfl, rfl, (by unfold CPow; decide), c, 1000000000, rfl, rfl, by decide, fun d hd hcd => ?_⟩⟩
      refine ⟨_, rfl, _, rfl, rd_t (s1 _ _ hx) hgv ⟨ga, _, rfl, SqT.of hga, rfl, _, _, rfl, _, _, rfl, _, _, rfl, rfl, ?_⟩⟩
      refine ⟨_, rfl, ma, _, rfl, .inr (SqT.of hma), _, rfl, ma, _, rfl, .inr (SqT.of hma), fun M hM => ?_⟩
      have hM1 : H1 M = none := hM
      have hMH : H M = none := s1.free hM1
      have nSM : S ≠ M := ne_of_none hov hM1
      have sb := same_new (o := .lst (tw g.marks)) hM1
      generalize hHb : upd H1 M (.lst (tw g.marks)) = Hb at sb ⊢
      have hMb : Hb M = some (.lst (tw g.marks)) := by rw [← hHb, upd_same]
      have sHb : Same H Hb := s1.trans sb
      have hSb : Hb S = some (.lst ov) := sb _ _ hov
      have pob : Paired (IsH Hb) ov os := Paired.mapP po fun _ _ q => q.mono sb
      have hyb := sb _ _ hya
      have pyb : Paired (IsW Hb) yvs g.ways := Paired.mapP py fun _ _ q => q.mono sb
      clear hHb sb
      refine ⟨_, rfl, ya, rfl, ⟨_, SqT.of hyb⟩, fun W hW => lc_tupX (K := K) (a := ya) (xs := yvs) (fun i H' => ∃ as, WI Hb H' W as (g.ways.take i)) ⟨[], same_new hW, hW, upd_same, .nil, List.nodup_nil, fun a ha => by simp at ha⟩ (fun i H' _ q => SqT.of (q.choose_spec.sm _ _ hyb)) ?_ ?_⟩
      · rintro i y H2 hy ⟨as, hwi⟩
        obtain ⟨wr, hwr, hyw⟩ := pair_get' pyb hy
        obtain ⟨r, rfl, hr1⟩ := hyw.mono hwi.sm
        refine ⟨rfl, _, rfl, r, _, rfl, .inr (SqT.of hr1), fun l hl => ⟨_, same_new hl _ _ hwi.ww, ?_, ?_⟩⟩
        · have h1 := hwi.len
          have h2 := og.two
          have h3 := og.rows
          rw [List.length_take] at h1
          rw [List.length_map]
          exact Nat.lt_of_le_of_lt (show as.length ≤ 2 by omega) (by decide)
        · have := hwi.push (same_new hl) hl upd_same (y := wr)
          rw [List.take_add_one, hwr]
          exact ⟨_, this⟩
      · rintro H2 ⟨as, hwi⟩
        have ly : yvs.length = g.ways.length := Paired.length py
        rw [ly, List.take_length] at hwi
        have hM2 := hwi.sm _ _ hMb
        refine ⟨_, rfl, d, 3, rfl, rfl, by decide, by decide, _, rfl, ((d / 3 : Nat) : Int), (tw g.marks).length, rfl, rfl, (by rw [tw_len]; exact og.pos), fun r hr _ => ?_⟩
        rw [tw_len] at hr
        refine ⟨_, rfl, d, 3, rfl, rfl, by decide, fun m hm hme => ⟨rfl, _, rfl, ?_⟩⟩
        by_cases c1 : m = 1
        case' pos =>
          rw [decide_eq_true (show nv m = V.int 1 by rw [c1]; rfl)]
          refine iteT ⟨_, rfl, d, 9, rfl, rfl, by decide, by decide, ((d / 9 : Nat) : Int), 2, rfl, rfl, by decide, fun b hb _ => ⟨_, rfl, _, rfl, M, _, (r : Int), r, rfl, rfl, hM2, ixn (by rw [tw_len]; exact hr), ?_⟩⟩
          obtain ⟨mk, hmk, lmk, bmk⟩ : ∃ mk : Wd, (tw g.marks).set r (nv b) = tw mk ∧ mk.length = g.marks.length ∧ ∀ m ∈ mk, m ≤ 1 := ⟨g.marks.set r b, tw_set _ _ _, List.length_set, set_mem og.bits (by omega)⟩
          rw [hmk]
          obtain ⟨Hc, H3, hc, hw3, sc, hSc, poc, hM3⟩ : ∃ Hc H3, upd H2 M (.lst (tw mk)) = H3 ∧ WI Hc H3 W as g.ways ∧ Same H Hc ∧ Hc S = some (.lst ov) ∧ Paired (IsH Hc) ov os ∧ Hc M = some (.lst (tw mk)) :=
            ⟨_, _, rfl, hwi.put hMb, same_mut sHb hMH, by rw [upd_ne nSM]; exact hSb, Paired.mapP pob fun _ _ q => q.tx (tx_upd hMb), upd_same⟩
          rw [hc]
        case' neg =>
          rw [decide_eq_false (show ¬ nv m = V.int 1 from fun z => c1 (by injection z with z; omega))]
          refine iteF ?_
          obtain ⟨mk, hmk, lmk, bmk⟩ : ∃ mk : Wd, g.marks = mk ∧ mk.length = g.marks.length ∧ ∀ m ∈ mk, m ≤ 1 := ⟨g.marks, rfl, rfl, og.bits⟩
          obtain ⟨Hc, H3, hc, hw3, sc, hSc, poc, hM3⟩ : ∃ Hc H3, H2 = H3 ∧ WI Hc H3 W as g.ways ∧ Same H Hc ∧ Hc S = some (.lst ov) ∧ Paired (IsH Hc) ov os ∧ Hc M = some (.lst (tw mk)) :=
            ⟨_, _, rfl, hwi, sHb, hSb, pob, by rw [← hmk]; exact hMb⟩
          rw [hc]
        all_goals
          clear hc hmk
          refine ⟨_, rfl, d, 3, rfl, rfl, by decide, fun m2 hm2 hme2 => ⟨rfl, _, rfl, ?_⟩⟩
          by_cases c2 : m2 = 2
          case' pos =>
            rw [decide_eq_true (show nv m2 = V.int 2 by rw [c2]; rfl)]
            have hrw : r < g.ways.length := by rw [og.rows]; exact hr
            obtain ⟨A, hA, hAr⟩ := hw3.aw.get (List.getElem?_eq_getElem hrw)
            have hAl := (og.row _ (List.getElem_mem hrw))
            refine iteT ⟨_, rfl, d, 36, rfl, rfl, by decide, by decide, _, rfl, ((d / 36 : Nat) : Int), (tw g.marks).length, rfl, rfl, (by rw [tw_len]; exact og.pos), fun b hb _ => ⟨_, rfl, _, rfl, rd_l hw3.ww (show (as.map V.ref)[r]? = some (V.ref A) by rw [List.getElem?_map, hA]; rfl) ⟨_, rfl, d, 9, rfl, rfl, by decide, by decide, _, rfl, ((d / 9 : Nat) : Int), g.L, rfl, rfl, (by rw [oL]; omega), fun q hq _ => ⟨A, _, (q : Int), q, rfl, rfl, hAr, ixn (by rw [tw_len, hAl.1]; exact hq), ?_⟩⟩⟩⟩
            rw [tw_len] at hb
            rw [tw_set]
            obtain ⟨ys, H4, hc4, hw4, lys, bys⟩ : ∃ ys H4, upd H3 A (.lst (tw (g.ways[r].set q b))) = H4 ∧ WI Hc H4 W as ys ∧ ys.length = g.ways.length ∧ ∀ y ∈ ys, y.length = g.L ∧ ∀ x ∈ y, x < g.marks.length :=
              ⟨g.ways.set r (g.ways[r].set q b), _, rfl, hw3.set hA, List.length_set, set_mem og.row ⟨by rw [List.length_set]; exact hAl.1, set_mem hAl.2 hb⟩⟩
            rw [hc4]
          case' neg =>
            rw [decide_eq_false (show ¬ nv m2 = V.int 2 from fun z => c2 (by injection z with z; omega))]
            refine iteF ?_
            obtain ⟨ys, H4, hc4, hw4, lys, bys⟩ : ∃ ys H4, H3 = H4 ∧ WI Hc H4 W as ys ∧ ys.length = g.ways.length ∧ ∀ y ∈ ys, y.length = g.L ∧ ∀ x ∈ y, x < g.marks.length :=
              ⟨g.ways, _, rfl, hw3, rfl, og.row⟩
            rw [hc4]
          all_goals
            clear hc4
            have sH4 : Same H H4 := sc.trans hw4.sm
            have hS4 := hw4.sm _ _ hSc
            have hM4 := hw4.sm _ _ hM3
            have po4 : Paired (IsH H4) ov os := Paired.mapP poc fun _ _ q => q.mono hw4.sm
            have la := hw4.len
            refine ⟨_, rfl, .inl ⟨rfl, _, SqL.of hS4⟩, _, rfl, _, rfl, M, _, rfl, SqL.of hM4, fun q1 H5 e5 hq1 => ?_⟩
            have hW5 := e5 _ _ hw4.ww
            refine ⟨_, rfl, W, rfl, ⟨_, SqL.of hW5⟩, fun D hD => lc_listX (K := K) (a := W) (xs := as.map V.ref) (fun i H' => Same H5 H' ∧ ∃ vs, H' D = some (.lst vs) ∧ Paired (IsW H') vs (ys.take i)) ⟨same_new hD, [], upd_same, .nil⟩ (fun i H' _ q => SqL.of (q.1 _ _ hW5)) ?_ ?_⟩
            · rintro j y H6 hy ⟨s6, vs, hvs, pvs⟩
              rw [List.getElem?_map] at hy
              obtain ⟨A, hA, rfl⟩ : ∃ A, as[j]? = some A ∧ y = V.ref A := by
                cases e : as[j]? with
                | none => rw [e] at hy; cases hy
                | some A => rw [e] at hy; exact ⟨A, rfl, (Option.some.inj hy).symm⟩
              have jl := (List.getElem?_eq_some_iff.mp hA).1
              obtain ⟨A', hA', hAr⟩ := hw4.aw.get (List.getElem?_eq_getElem (show j < ys.length by omega))
              obtain rfl : A' = A := by rw [hA] at hA'; exact (Option.some.inj hA').symm
              refine ⟨rfl, _, rfl, A', _, rfl, SqL.of (s6 _ _ (e5 _ _ hAr)), fun q2 H7 e7 hq2 => ⟨_, e7 _ _ hvs, ?_, same_mut (s6.trans e7) hD, ?_⟩⟩
              · have h1 := Paired.length pvs
                have h2 := og.two
                have h3 := og.rows
                rw [List.length_take] at h1
                exact Nat.lt_of_le_of_lt (show vs.length ≤ 2 by omega) (by decide)
              · refine ⟨vs ++ [.ref q2], upd_same, ?_⟩
                rw [List.take_add_one, List.getElem?_eq_getElem (show j < ys.length by omega)]
                have tx := tx_upd (o := .lst (vs ++ [.ref q2])) (e7 _ _ hvs)
                exact Paired.mapP (pair_snoc (Paired.mapP pvs fun _ _ q => q.mono e7) ⟨q2, rfl, hq2⟩) fun _ _ q => q.tx tx
            · rintro H6 ⟨s6, vs, hvs, pvs⟩
              rw [List.length_map, la, List.take_length] at pvs
              refine ⟨D, vs, rfl, SqL.of hvs, fun q2 H7 e7 hq2 => ⟨by show 3 ≤ sizeLine; decide, fun t H8 e8 ht => ?_⟩⟩
              have s48 : Same H4 H8 := ((e5.trans s6).trans e7).trans e8
              have hS8 := s48 _ _ hS4
              have hSn : H S = none := hS
              have lov : ov.length = i := by rw [Paired.length po, lo]
              refine ⟨S, ov, _, rfl, rfl, hS8, Nat.lt_of_lt_of_le (show ov.length < 4 by omega) (by decide), ?_⟩
              have tx := tx_upd (o := .lst (ov ++ [.ref t])) hS8
              have hnew : IsH H8 (.ref t) ⟨g.L, mk, ys⟩ := ⟨t, .ref q1, .ref q2, rfl, ht, ⟨q1, rfl, (s6.trans (e7.trans e8)) _ _ hq1⟩, ⟨q2, vs, rfl, e8 _ _ hq2, Paired.mapP pvs fun _ _ q => q.mono (e7.trans e8)⟩⟩
              refine ⟨same_mut (sH4.trans s48) hSn, ⟨os ++ [⟨g.L, mk, ys⟩], ⟨_, upd_same, Paired.mapP (pair_snoc (Paired.mapP po4 fun _ _ q => q.mono s48) hnew) fun _ _ q => q.tx tx⟩, by rw [List.length_append, lo]; rfl, fun j' g' o' h1 h2 => ?_⟩, _, _, _, _, _, _, _, _, rfl⟩
              by_cases hj : j' < os.length
              · rw [List.getElem?_append_left hj] at h2
                exact ho j' g' o' h1 h2
              · have hl2 := (List.getElem?_eq_some_iff.mp h2).1
                simp only [List.length_append, List.length_cons, List.length_nil] at hl2
                obtain rfl : j' = i := by omega
                rw [List.getElem?_append_right (by omega), lo, Nat.sub_self] at h2
                obtain rfl : _ = o' := Option.some.inj h2
                obtain rfl : g = g' := by rw [gj] at h1; exact Option.some.inj h1
                exact ⟨rfl, lmk, og.ways_set lmk bmk lys bys⟩
    · rintro σ H1 ⟨s1, ⟨os, ⟨ov, hov, po⟩, lo, ho⟩, x3, x4, x5, x6, x7, x8, x9, x10, rfl⟩
      exact ⟨_, rfl, k os S H1 s1 ⟨ov, hov, po⟩ (by rw [lo, lg, gN.len]) ho⟩
end
end Gr
namespace Gr
open PySem L2
/-! ### an asker's state -/
inductive Wish where
  | non | ask (u : Wd) | shw (h : Hs)
  deriving DecidableEq
structure ASt where
  bk : Bk
  acc : List Wd
  wish : Wish
  deriving DecidableEq
def okGuess (bk : Bk) (L : Nat) (acc : List Wd) : Bool := acc.all fun u => (told bk u).isSome && (List.range L).all fun l => (placeF bk acc (told bk (u ++ [l]))).isSome
def hsOkB (h : Hs) : Bool := decide (h.ways.length = h.marks.length) && decide (0 < h.marks.length) && decide (h.marks.length ≤ 2) && (h.ways.all fun y => decide (y.length = h.L) && y.all fun x => decide (x < h.marks.length)) && (h.marks.all fun m => decide (m ≤ 1)) && decide (h.L ≤ 4)
theorem hsOk_of {h : Hs} (b : hsOkB h = true) : HsOk h := by
  unfold hsOkB at b
  simp only [Bool.and_eq_true, List.all_eq_true, decide_eq_true_eq] at b
  obtain ⟨⟨⟨⟨⟨b1, b2⟩, b3⟩, b4⟩, b5⟩, b6⟩ := b
  exact ⟨b1, b2, b3, fun y hy => b4 y hy, b5, b6⟩
def fitsB (bk : Bk) (h : Hs) : Bool := bk.all fun p => (p.1.all fun x => decide (x < h.L)) && decide (p.1.length ≤ 100) && decide (markH h p.1 = p.2)
def wfB (L : Nat) (s : ASt) : Bool := decide (L ≤ 4) && decide (s.acc.length ≤ 2) && (s.acc.all fun u => decide (u.length ≤ 100)) && decide (s.bk.length ≤ 100)
/-- one step: none where the asker would hunt or be spent -/
def stepF (L : Nat) (s : ASt) : Option (Bool × ASt) :=
  if wfB L s then
    match gapF s.bk L s.acc with
    | some u => some (true, { s with wish := .ask u })
    | none => match strangerF s.bk L s.acc with
      | some u => if s.acc.length < 2 then some (false, { s with acc := s.acc ++ [u] }) else none
      | none => if okGuess s.bk L s.acc && hsOkB (guessF s.bk L s.acc) && fitsB s.bk (guessF s.bk L s.acc) then some (true, { s with wish := .shw (guessF s.bk L s.acc) }) else none
  else none
def settleF (L : Nat) : Nat → ASt → Option ASt
  | 0, _ => none
  | n + 1, s => match stepF L s with
    | some (true, s') => some s'
    | some (false, s') => settleF L n s'
    | none => none
def IsWish (H : Hp) (v : V) : Wish → Prop
  | .non => v = .non
  | .ask u => ∃ t x, v = .ref t ∧ H t = some (.tup [.str "ask", x]) ∧ IsW H x u
  | .shw h => ∃ t x, v = .ref t ∧ H t = some (.tup [.str "show", x]) ∧ IsH H x h
theorem IsWish.tx {H H' : Hp} {v : V} {s : Wish} (h : IsWish H v s) (e : Tx H H') : IsWish H' v s := by
  cases s with
  | non => exact h
  | ask u =>
    obtain ⟨t, x, rfl, h1, h2⟩ := h
    exact ⟨t, x, rfl, e _ _ h1, h2.tx e⟩
  | shw u =>
    obtain ⟨t, x, rfl, h1, h2⟩ := h
    exact ⟨t, x, rfl, e _ _ h1, h2.tx e⟩
/-- all is kept but what stands at M; the tuples stay -/
structure Kp (M : Addr → Prop) (H H' : Hp) : Prop where
  kp : ∀ b o, H b = some o → ¬ M b → H' b = some o
  tx : Tx H H'
theorem Kp.of {M : Addr → Prop} {H H' : Hp} (e : Same H H') : Kp M H H' := ⟨fun b o h _ => e b o h, .of e⟩
theorem Kp.refl {M : Addr → Prop} (H : Hp) : Kp M H H := .of (Same.refl H)
theorem Kp.trans {M : Addr → Prop} {H H1 H2 : Hp} (a : Kp M H H1) (b : Kp M H1 H2) : Kp M H H2 := ⟨fun c o h n => b.kp c o (a.kp c o h n) n, a.tx.trans b.tx⟩
theorem Kp.upd {M : Addr → Prop} {H H1 : Hp} (a : Kp M H H1) {p : Addr} {o u : HO} (hM : M p) (hp : H1 p = some o) (no : ∀ xs, o ≠ .tup xs) : Kp M H (upd H1 p u) :=
  ⟨fun c q h n => by rw [upd_ne (fun z => n (by rw [z]; exact hM))]; exact a.kp c q h n, fun c xs h => by
    have h1 := a.tx c xs h
    rw [upd_ne (fun z => by rw [z, hp] at h1; exact no xs (Option.some.inj h1))]
    exact h1⟩
theorem Kp.mono {M M' : Addr → Prop} {H H' : Hp} (a : Kp M H H') (h : ∀ b, M b → M' b) : Kp M' H H' := ⟨fun b o e n => a.kp b o e fun z => n (h b z), a.tx⟩
abbrev askN : List Str := ["letters", "most", "book", "ways", "ends", "hunt", "wish"]
structure Ad where
  p : Addr
  b : Addr
  d : Addr
  a : Addr
  e : Addr
/-- what an asker's methods change -/
def Ad.foot (A : Ad) (x : Addr) : Prop := x = A.p ∨ x = A.d ∨ x = A.a
structure AskAt (CA CB : Addr) (H : Hp) (A : Ad) (L : Nat) (s : ASt) : Prop where
  ob : ∃ dx wv, H A.p = some (.ins CA dx (askN.zip [nv L, nv 2, .ref A.b, .ref A.a, .ref A.e, .non, wv])) ∧ IsWish H wv s.wish
  bo : BookAt CB H A.b A.d L s.bk
  ac : IsL2 H A.a s.acc
  en : IsL2 H A.e [[]]
  npb : A.p ≠ A.b
  nae : A.a ≠ A.e
section
variable {CA CB : Addr} {H H' : Hp} {A : Ad} {L : Nat} {s : ASt}
theorem AskAt.mono (h : AskAt CA CB H A L s) (e : Same H H') : AskAt CA CB H' A L s :=
  ⟨let ⟨dx, wv, q, r⟩ := h.ob; ⟨dx, wv, e _ _ q, r.tx (.of e)⟩, h.bo.mono e, h.ac.mono e, h.en.mono e, h.npb, h.nae⟩
theorem AskAt.npd (h : AskAt CA CB H A L s) : A.p ≠ A.d := by
  obtain ⟨dx, wv, q, _⟩ := h.ob
  exact ne_of q h.bo.dc (fun z => nomatch z)
theorem AskAt.npa (h : AskAt CA CB H A L s) : A.p ≠ A.a := by
  obtain ⟨dx, wv, q, _⟩ := h.ob
  obtain ⟨vs, r, _⟩ := h.ac
  exact ne_of q r (fun z => nomatch z)
theorem AskAt.npe (h : AskAt CA CB H A L s) : A.p ≠ A.e := by
  obtain ⟨dx, wv, q, _⟩ := h.ob
  obtain ⟨vs, r, _⟩ := h.en
  exact ne_of q r (fun z => nomatch z)
theorem AskAt.nda (h : AskAt CA CB H A L s) : A.d ≠ A.a := by
  obtain ⟨vs, r, _⟩ := h.ac
  exact ne_of h.bo.dc r (fun z => nomatch z)
theorem AskAt.nde (h : AskAt CA CB H A L s) : A.d ≠ A.e := by
  obtain ⟨vs, r, _⟩ := h.en
  exact ne_of h.bo.dc r (fun z => nomatch z)
theorem AskAt.nba (h : AskAt CA CB H A L s) : A.b ≠ A.a := by
  obtain ⟨dx, q⟩ := h.bo.ob
  obtain ⟨vs, r, _⟩ := h.ac
  exact ne_of q r (fun z => nomatch z)
theorem IsL2.ne {H : Hp} {a c : Addr} {ws : List Wd} {o : HO} (h : IsL2 H a ws) (hc : H c = some o) (n : ∀ xs, o ≠ .lst xs) : a ≠ c := by
  obtain ⟨vs, q, _⟩ := h
  exact ne_of q hc (fun z => n _ z.symm)
/-- another heap in which its objects stand as they stood -/
theorem AskAt.kp {M : Addr → Prop} (h : AskAt CA CB H A L s) (k : Kp M H H') (hp : ¬ M A.p) (hb : ¬ M A.b) (hd : ¬ M A.d) (ha : ¬ M A.a) (he : ¬ M A.e) : AskAt CA CB H' A L s := by
  obtain ⟨dx, wv, q, r⟩ := h.ob
  obtain ⟨dy, qb⟩ := h.bo.ob
  obtain ⟨vs, qa, pa⟩ := h.ac
  obtain ⟨es, qe, pe⟩ := h.en
  exact ⟨⟨dx, wv, k.kp _ _ q hp, r.tx k.tx⟩, ⟨⟨dy, k.kp _ _ qb hb⟩, k.kp _ _ h.bo.dc hd⟩, ⟨vs, k.kp _ _ qa ha, Paired.mapP pa fun _ _ q => q.tx k.tx⟩, ⟨es, k.kp _ _ qe he, Paired.mapP pe fun _ _ q => q.tx k.tx⟩, h.npb, h.nae⟩
theorem nm_ask_letters : ixOf askN "letters" = some 0 := by decide +kernel
theorem nm_ask_most : ixOf askN "most" = some 1 := by decide +kernel
theorem nm_ask_book : ixOf askN "book" = some 2 := by decide +kernel
theorem nm_ask_ways : ixOf askN "ways" = some 3 := by decide +kernel
theorem nm_ask_ends : ixOf askN "ends" = some 4 := by decide +kernel
theorem nm_ask_hunt : ixOf askN "hunt" = some 5 := by decide +kernel
theorem nm_ask_wish : ixOf askN "wish" = some 6 := by decide +kernel
/-- its wish is stored -/
theorem AskAt.setWish (h : AskAt CA CB H A L s) {dx : Addr} {fs : List (Str × V)} {wv x : V} {ws : Wish} (q : H A.p = some (.ins CA dx fs)) (hf : putF "wish" x fs = askN.zip [nv L, nv 2, .ref A.b, .ref A.a, .ref A.e, .non, x]) (hx : IsWish H x ws) :
    AskAt CA CB (upd H A.p (.ins CA dx (putF "wish" x fs))) A L { s with wish := ws } := by
  have nt : Tx H (upd H A.p (.ins CA dx (putF "wish" x fs))) := fun c xs e => by
    rw [upd_ne (ne_of e q (fun z => nomatch z))]
    exact e
  obtain ⟨dy, qb⟩ := h.bo.ob
  obtain ⟨vs, qa, pa⟩ := h.ac
  obtain ⟨es, qe, pe⟩ := h.en
  refine ⟨⟨dx, x, by rw [upd_same, hf], hx.tx nt⟩, ⟨⟨dy, by rw [upd_ne h.npb.symm]; exact qb⟩, by rw [upd_ne h.npd.symm]; exact h.bo.dc⟩, ⟨vs, by rw [upd_ne h.npa.symm]; exact qa, Paired.mapP pa fun _ _ q => q.tx nt⟩,
    ⟨es, by rw [upd_ne h.npe.symm]; exact qe, Paired.mapP pe fun _ _ q => q.tx nt⟩, h.npb, h.nae⟩
end
section
variable {P : Program} {w : World} {K : PySem.W.Frag} {mg : Str → Option Value} {base : Heap} {CB CA CC : Addr}
def spTakeIn (CA CB : Addr) : Sp := fun vs H Q _ => ∃ (A : Ad) (L : Nat) (s : ASt) (v : V) (u : Wd), vs = [.ref A.p, v] ∧ AskAt CA CB H A L s ∧ IsW H v u ∧ s.acc.length < 2 ∧
  ∀ H', AskAt CA CB H' A L { s with acc := s.acc ++ [u] } → Kp A.foot H H' → Q (.bl false) H'
theorem ok_Asker_take_in (T : Txt K mg CB CA CC) : GoodM P w K mg base 1 CA "take_in" ["self", "word"] (spTakeIn CA CB) := by
  refine T.Asker_take_in.good sc_Asker_take_in (fun vs H Q E h => ?_) (fun f cdv A outer s H vs Q E hr h => ?_)
  · obtain ⟨A, L, s, v, u, rfl, _⟩ := h
    rfl
  · obtain ⟨A, L, s, v, u, rfl, h, hv, hl, k⟩ := h
    refine ⟨_, 
      (pss_cons (ps_if (pt_cmpR op_eq (pe_callB call_len_seq (by rfl) T.no_len PySem.boot_len (pa_cons (pe_fldX (pv 0) rfl) pa_nil)) (pe_fldX (pv 0) rfl) (nomark _)) 
        pss_never pss_nil)
      (pss_cons (ps_expr (pe_bm PySem.F.plainAttrs_list PySem.F.slot_list_append PySem.F.type_list_append mt_append (pe_fldX (pv 0) rfl) (pa_cons (pv 1) pa_nil)))
      (pss_one (ps_ret pe_bl)))), ?_⟩
    obtain ⟨dx, wv, hp, hw⟩ := id h.ob
    obtain ⟨vs, ha, pa⟩ := id h.ac
    have lv : vs.length = s.acc.length := Paired.length pa
    refine ⟨_, rfl, rd_fld hp T.c_CA T.n_CA_ways (zip_lookup nm_ask_ways rfl rfl) ⟨A.a, _, rfl, .inl (SqL.of ha), _, rfl, rd_fld hp T.c_CA T.n_CA_most (zip_lookup nm_ask_most rfl rfl) ⟨rfl, _, rfl, ?_⟩⟩⟩
    rw [decide_eq_false (show ¬ (V.int (vs.length : Int) = nv 2) from fun z => by injection z with z; omega)]
    refine iteF ⟨_, rfl, rd_fld hp T.c_CA T.n_CA_ways (zip_lookup nm_ask_ways rfl rfl) ⟨.inl ⟨rfl, _, SqL.of ha⟩, _, rfl, A.a, vs, _, rfl, rfl, ha, ?_, ?_⟩⟩
    · exact Nat.lt_of_lt_of_le (show vs.length < 2 by omega) (by decide)
    · have nt : Tx H (upd H A.a (.lst (vs ++ [v]))) := fun c xs e => by
        rw [upd_ne (ne_of e ha (fun z => nomatch z))]
        exact e
      obtain ⟨dy, qb⟩ := h.bo.ob
      obtain ⟨es, qe, pe⟩ := h.en
      refine k _ ⟨⟨dx, wv, by rw [upd_ne h.npa]; exact hp, hw.tx nt⟩, ⟨⟨dy, by rw [upd_ne h.nba]; exact qb⟩, by rw [upd_ne h.nda]; exact h.bo.dc⟩, IsL2.app ha pa hv, ⟨es, by rw [upd_ne h.nae.symm]; exact qe, Paired.mapP pe fun _ _ q => q.tx nt⟩, h.npb, h.nae⟩
        ((Kp.refl H).upd (.inr (.inr rfl)) ha (fun xs z => nomatch z))

def spAskStep (CA CB : Addr) : Sp := fun vs H Q _ => ∃ (A : Ad) (L : Nat) (s s' : ASt) (r : Bool), vs = [.ref A.p] ∧ AskAt CA CB H A L s ∧ stepF L s = some (r, s') ∧
  ∀ H', AskAt CA CB H' A L s' → Kp A.foot H H' → Q (.bl r) H'
theorem ok_Asker_one_step (T : Txt K mg CB CA CC) : GoodM P w K mg base 6 CA "one_step" ["self"] (spAskStep CA CB) := by
  refine T.Asker_one_step.good sc_Asker_one_step (fun vs H Q E h => ?_) (fun f cdv A outer s H vs Q E hr h => ?_)
  · obtain ⟨A, L, s, s', r, rfl, _⟩ := h
    rfl
  · obtain ⟨A, L, s, s', r, rfl, h, hst, k⟩ := h
    refine ⟨_, 
      (pss_cons (ps_if (pt_cmpR op_notN (pe_fldX (pv 0) rfl) pe_non (nomark _)) 
        pss_never pss_nil)
      (pss_cons (ps_set (i := 1) sc_Asker_one_step.nd rfl (Or.inl rfl) (pe_callG (ok_gap T) (hr.mono (by decide)) rfl (pa_cons (pe_fldX (pv 0) rfl) (pa_cons (pe_fldX (pv 0) rfl) (pa_cons (pe_fldX (pv 0) rfl) (pa_cons (pe_fldX (pv 0) rfl) pa_nil))))))
      (pss_cons (ps_if (pt_cmpR op_notN (pv 1) pe_non (nomark _)) 
        (pss_cons (ps_fld (pv 0) (pe_tupX (pa_cons pe_str (pa_cons (pv 1) pa_nil))) rfl)
        (pss_one (ps_ret pe_bl))) pss_nil)
      (pss_cons (ps_set (i := 1) sc_Asker_one_step.nd rfl (Or.inl rfl) (pe_callG (ok_stranger T) (hr.mono (by decide)) rfl (pa_cons (pe_fldX (pv 0) rfl) (pa_cons (pe_fldX (pv 0) rfl) (pa_cons (pe_fldX (pv 0) rfl) (pa_cons (pe_fldX (pv 0) rfl) pa_nil))))))
      (pss_cons (ps_if (pt_cmpR op_notN (pv 1) pe_non (nomark _)) 
        (pss_one (ps_ret (pe_methG (ok_Asker_take_in T) (hr.mono (by decide)) (pv 0) (pa_cons (pv 1) pa_nil)))) pss_nil)
      (pss_cons (ps_set (i := 2) sc_Asker_one_step.nd rfl (Or.inl rfl) (pe_callG (ok_guess_of T) (hr.mono (by decide)) rfl (pa_cons (pe_fldX (pv 0) rfl) (pa_cons (pe_fldX (pv 0) rfl) (pa_cons (pe_fldX (pv 0) rfl) (pa_cons (pe_fldX (pv 0) rfl) pa_nil))))))
      (pss_cons (ps_set (i := 1) sc_Asker_one_step.nd rfl (Or.inl rfl) (pe_callG (ok_first_wrong T) (hr.mono (by decide)) rfl (pa_cons (pe_fldX (pv 0) rfl) (pa_cons (pv 2) pa_nil))))
      (pss_cons (ps_if (pt_cmpR op_isN (pv 1) pe_non (nomark _)) 
        (pss_cons (ps_fld (pv 0) (pe_tupX (pa_cons pe_str (pa_cons (pv 2) pa_nil))) rfl)
        (pss_one (ps_ret pe_bl))) pss_nil)
      pss_never)))))))), ?_⟩
    have hwf : wfB L s = true := by
      cases e : wfB L s with
      | true => rfl
      | false =>
        rw [stepF, if_neg (by rw [e]; exact Bool.false_ne_true)] at hst
        cases hst
    rw [stepF, if_pos hwf] at hst
    have wf := hwf
    unfold wfB at wf
    simp only [Bool.and_eq_true, List.all_eq_true, decide_eq_true_eq] at wf
    obtain ⟨⟨⟨w1, w2⟩, w3⟩, w4⟩ := wf
    have tab : ∀ H', Same H H' → TabAt CB H' A.b A.d A.a A.e L s.bk s.acc := fun H' e => ⟨h.bo.mono e, h.ac.mono e, h.en.mono e, w1, w2, w3⟩
    obtain ⟨dx, wv, hp, hw⟩ := id h.ob
    refine ⟨_, rfl, rd_fld hp T.c_CA T.n_CA_hunt (zip_lookup nm_ask_hunt rfl rfl) ⟨rfl, _, rfl, iteF ?_⟩⟩
    refine ⟨_, rfl, rd_fld hp T.c_CA T.n_CA_book (zip_lookup nm_ask_book rfl rfl) ⟨_, rfl, rd_fld hp T.c_CA T.n_CA_letters (zip_lookup nm_ask_letters rfl rfl) ⟨_, rfl, rd_fld hp T.c_CA T.n_CA_ways (zip_lookup nm_ask_ways rfl rfl) ⟨_, rfl, rd_fld hp T.c_CA T.n_CA_ends (zip_lookup nm_ask_ends rfl rfl) ?_⟩⟩⟩⟩
    refine ⟨A.b, A.d, A.a, A.e, L, s.bk, s.acc, rfl, tab H (Same.refl H), fun v H1 s1 hv => ?_⟩
    cases hg : gapF s.bk L s.acc with
    | some u =>
      rw [hg] at hst hv
      obtain ⟨x, rfl, hx⟩ : IsW H1 v u := hv
      simp only [Option.some.injEq, Prod.mk.injEq] at hst
      obtain ⟨rfl, rfl⟩ := hst
      refine ⟨_, rfl, rfl, _, rfl, iteT ⟨_, rfl, (by show 2 ≤ sizeLine; decide), fun t H2 e2 ht => ⟨_, rfl, A.p, CA, dx, _, rfl, e2 _ _ (s1 _ _ hp), T.c_CA, T.n_CA_wish, (by show 7 < 1000; decide), ?_⟩⟩⟩
      have e12 := s1.trans e2
      exact k _ ((h.mono e12).setWish (wv := wv) (e12 _ _ hp) (putF_zip nm_ask_wish rfl) ⟨t, .ref x, rfl, ht, x, rfl, e2 _ _ hx⟩) ((Kp.of e12).upd (.inl rfl) (e12 _ _ hp) (fun xs z => nomatch z))
    | none =>
      rw [hg] at hst hv
      obtain rfl : v = .non := hv
      refine ⟨_, rfl, rfl, _, rfl, iteF ?_⟩
      have hp1 := s1 _ _ hp
      refine ⟨_, rfl, rd_fld hp1 T.c_CA T.n_CA_book (zip_lookup nm_ask_book rfl rfl) ⟨_, rfl, rd_fld hp1 T.c_CA T.n_CA_letters (zip_lookup nm_ask_letters rfl rfl) ⟨_, rfl, rd_fld hp1 T.c_CA T.n_CA_ways (zip_lookup nm_ask_ways rfl rfl) ⟨_, rfl, rd_fld hp1 T.c_CA T.n_CA_ends (zip_lookup nm_ask_ends rfl rfl) ?_⟩⟩⟩⟩
      refine ⟨A.b, A.d, A.a, A.e, L, s.bk, s.acc, rfl, tab H1 s1, fun v H2 s2 hv => ?_⟩
      have s12 := s1.trans s2
      cases hs : strangerF s.bk L s.acc with
      | some u =>
        rw [hs] at hv
        simp only [hs] at hst
        obtain ⟨x, rfl, hx⟩ : IsW H2 v u := hv
        by_cases hl : s.acc.length < 2
        · rw [if_pos hl] at hst
          simp only [Option.some.injEq, Prod.mk.injEq] at hst
          obtain ⟨rfl, rfl⟩ := hst
          refine ⟨_, rfl, rfl, _, rfl, iteT ⟨_, rfl, A.p, dx, _, rfl, s12 _ _ hp, zip_lookup_none (by decide +kernel), _, rfl, A, L, s, .ref x, u, rfl, h.mono s12, ⟨x, rfl, hx⟩, hl, fun H3 h3 k3 => k H3 h3 ((Kp.of s12).trans k3)⟩⟩
        · rw [if_neg hl] at hst
          cases hst
      | none =>
        rw [hs] at hv
        simp only [hs] at hst
        obtain rfl : v = .non := hv
        refine ⟨_, rfl, rfl, _, rfl, iteF ?_⟩
        have hp2 := s12 _ _ hp
        by_cases hok : (okGuess s.bk L s.acc && hsOkB (guessF s.bk L s.acc) && fitsB s.bk (guessF s.bk L s.acc)) = true
        · rw [if_pos hok] at hst
          simp only [Option.some.injEq, Prod.mk.injEq] at hst
          obtain ⟨rfl, rfl⟩ := hst
          rw [Bool.and_eq_true, Bool.and_eq_true] at hok
          obtain ⟨⟨g1, g2⟩, g3⟩ := hok
          unfold okGuess at g1
          simp only [List.all_eq_true, Bool.and_eq_true, List.mem_range] at g1
          unfold fitsB at g3
          simp only [List.all_eq_true, Bool.and_eq_true, decide_eq_true_eq] at g3
          refine ⟨_, rfl, rd_fld hp2 T.c_CA T.n_CA_book (zip_lookup nm_ask_book rfl rfl) ⟨_, rfl, rd_fld hp2 T.c_CA T.n_CA_letters (zip_lookup nm_ask_letters rfl rfl) ⟨_, rfl, rd_fld hp2 T.c_CA T.n_CA_ways (zip_lookup nm_ask_ways rfl rfl) ⟨_, rfl, rd_fld hp2 T.c_CA T.n_CA_ends (zip_lookup nm_ask_ends rfl rfl) ?_⟩⟩⟩⟩
          refine ⟨A.b, A.d, A.a, A.e, L, s.bk, s.acc, rfl, tab H2 s12, fun u hu l hl => Option.isSome_iff_exists.mp ((g1 u hu).2 l hl), fun u hu => Option.isSome_iff_exists.mp (g1 u hu).1, fun v H3 s3 hv => ?_⟩
          have s13 := s12.trans s3
          have hp3 := s13 _ _ hp
          refine ⟨_, rfl, rd_fld hp3 T.c_CA T.n_CA_book (zip_lookup nm_ask_book rfl rfl) ⟨_, rfl, A.b, A.d, v, L, s.bk, guessF s.bk L s.acc, rfl, h.bo.mono s13, by omega, hv, hsOk_of g2, fun p hp => ⟨(g3 p hp).1.1, Nat.le_trans (g3 p hp).1.2 (by omega), (g3 p hp).2⟩, fun H4 s4 => ?_⟩⟩
          have s14 := s13.trans s4
          have hp4 := s14 _ _ hp
          refine ⟨_, rfl, rfl, _, rfl, iteT ⟨_, rfl, (by show 2 ≤ sizeLine; decide), fun t H5 e5 ht => ⟨_, rfl, A.p, CA, dx, _, rfl, e5 _ _ hp4, T.c_CA, T.n_CA_wish, (by show 7 < 1000; decide), ?_⟩⟩⟩
          have s15 := s14.trans e5
          exact k _ ((h.mono s15).setWish (wv := wv) (s15 _ _ hp) (putF_zip nm_ask_wish rfl) ⟨t, v, rfl, ht, hv.mono (s4.trans e5)⟩) ((Kp.of s15).upd (.inl rfl) (s15 _ _ hp) (fun xs z => nomatch z))
        · rw [if_neg hok] at hst
          cases hst
end
end Gr
namespace Gr
open PySem L2
section
variable {P : Program} {w : World} {K : PySem.W.Frag} {mg : Str → Option Value} {base : Heap} {CB CA CC : Addr}
def spAskWants (CA CB : Addr) : Sp := fun vs H Q _ => ∃ (A : Ad) (L : Nat) (s : ASt), vs = [.ref A.p] ∧ AskAt CA CB H A L s ∧ ∀ wv, IsWish H wv s.wish → Q wv H
theorem ok_Asker_wants (T : Txt K mg CB CA CC) : GoodM P w K mg base 1 CA "wants" ["self"] (spAskWants CA CB) := by
  refine T.Asker_wants.good sc_Asker_wants (fun vs H Q E h => ?_) (fun f cdv A outer s H vs Q E hr h => ?_)
  · obtain ⟨A, L, s, rfl, _⟩ := h
    rfl
  · obtain ⟨A, L, s, rfl, h, k⟩ := h
    refine ⟨_, 
      (pss_one (ps_ret (pe_fldX (pv 0) rfl))), ?_⟩
    obtain ⟨dx, wv, hp, hw⟩ := id h.ob
    exact ⟨_, rfl, rd_fld hp T.c_CA T.n_CA_wish (zip_lookup nm_ask_wish rfl rfl) (k wv hw)⟩

def spAskSettle (CA CB : Addr) : Sp := fun vs H Q _ => ∃ (A : Ad) (L n : Nat) (s s' : ASt), vs = [.ref A.p] ∧ AskAt CA CB H A L s ∧ settleF L n s = some s' ∧
  ∀ H', AskAt CA CB H' A L s' → Kp A.foot H H' → Q .non H'
theorem ok_Asker_settle (T : Txt K mg CB CA CC) : GoodM P w K mg base 7 CA "settle" ["self"] (spAskSettle CA CB) := by
  refine T.Asker_settle.good sc_Asker_settle (fun vs H Q E h => ?_) (fun f cdv A outer s H vs Q E hr h => ?_)
  · obtain ⟨A, L, n, s, s', rfl, _⟩ := h
    rfl
  · obtain ⟨A, L, n, s, s', rfl, h, hst, k⟩ := h
    refine ⟨_, 
      (pss_one (ps_while PassesOwn.never (pt_not (pt_val (pe_methG0 (ok_Asker_one_step T) (hr.mono (by decide)) (pv 0)))) 
        (pss_one ps_pass))), ?_⟩
    refine ⟨fun m σ H' => σ = [some (.ref A.p)] ∧ ∃ s1, AskAt CA CB H' A L s1 ∧ Kp A.foot H H' ∧ settleF L m s1 = some s', ⟨n, rfl, s, h, Kp.refl H, hst⟩, ?_⟩
    rintro m σ H1 ⟨rfl, s1, h1, k1, hs1⟩
    cases m with
    | zero => cases hs1
    | succ m =>
      obtain ⟨dx, wv, hp, hw⟩ := id h1.ob
      unfold settleF at hs1
      cases e : stepF L s1 with
      | none => rw [e] at hs1; cases hs1
      | some r =>
        obtain ⟨r, s2⟩ := r
        rw [e] at hs1
        refine ⟨_, rfl, A.p, dx, _, rfl, hp, zip_lookup_none (by decide +kernel), A, L, s1, s2, r, rfl, h1, e, fun H2 h2 k2 => ⟨_, rfl, ?_⟩⟩
        cases r with
        | true =>
          obtain rfl : s2 = s' := Option.some.inj hs1
          exact iteF (k H2 h2 (k1.trans k2))
        | false =>
          exact iteT ⟨fun σ' H' => σ' = [some (.ref A.p)] ∧ ∃ s1, AskAt CA CB H' A L s1 ∧ Kp A.foot H H' ∧ settleF L m s1 = some s', fun σ' H' q => ⟨m, Nat.lt_succ_self m, q⟩, rfl, s2, h2, k1.trans k2, hs1⟩

/-- told a mark, and on until something is wanted -/
def hearF (L : Nat) (s : ASt) (u : Wd) (m : Nat) : Option ASt :=
  if (told s.bk u).isNone && (u.all fun x => decide (x < L)) && decide (s.bk.length ≤ 100) then settleF L 3 { s with bk := s.bk ++ [(u, m)] } else none
def spAskHear (CA CB : Addr) : Sp := fun vs H Q _ => ∃ (A : Ad) (L m : Nat) (u : Wd) (s s' : ASt), vs = [.ref A.p, nv m] ∧ AskAt CA CB H A L s ∧ s.wish = .ask u ∧ m ≤ 1 ∧ hearF L s u m = some s' ∧
  ∀ H', AskAt CA CB H' A L s' → Kp A.foot H H' → Q .non H'
theorem ok_Asker_hear (T : Txt K mg CB CA CC) : GoodM P w K mg base 8 CA "hear" ["self", "mark"] (spAskHear CA CB) := by
  refine T.Asker_hear.good sc_Asker_hear (fun vs H Q E h => ?_) (fun f cdv A outer s H vs Q E hr h => ?_)
  · obtain ⟨A, L, m, u, s, s', rfl, _⟩ := h
    rfl
  · obtain ⟨A, L, m, u, s, s', rfl, h, hwi, hm, hst, k⟩ := h
    refine ⟨_, 
      (pss_cons (ps_if (pt_cmpR op_ne (pe_ixTC (pe_fldX (pv 0) rfl)) pe_str (nomark _)) pss_never pss_nil)
      (pss_cons (ps_expr (pe_methG (ok_Book_put T) (hr.mono (by decide)) (pe_fldX (pv 0) rfl) (pa_cons (pe_ixTC (pe_fldX (pv 0) rfl)) (pa_cons (pv 1) pa_nil))))
      (pss_one (ps_expr (pe_methG0 (ok_Asker_settle T) (hr.mono (by decide)) (pv 0)))))), ?_⟩
    unfold hearF at hst
    by_cases hc : ((told s.bk u).isNone && (u.all fun x => decide (x < L)) && decide (s.bk.length ≤ 100)) = true
    · rw [if_pos hc] at hst
      simp only [Bool.and_eq_true, List.all_eq_true, decide_eq_true_eq, Option.isNone_iff_eq_none] at hc
      obtain ⟨⟨c1, c2⟩, c3⟩ := hc
      obtain ⟨dx, wv, hp, hw⟩ := id h.ob
      rw [hwi] at hw
      obtain ⟨t, x, rfl, ht, hx⟩ := id hw
      refine ⟨_, rfl, rd_fld hp T.c_CA T.n_CA_wish (zip_lookup nm_ask_wish rfl rfl) (rd_tC (i := 0) ht rfl ⟨rfl, _, rfl, iteNS rfl ?_⟩)⟩
      obtain ⟨dy, hb⟩ := id h.bo.ob
      refine ⟨_, rfl, rd_fld hp T.c_CA T.n_CA_book (zip_lookup nm_ask_book rfl rfl) ⟨A.b, dy, _, rfl, hb, zip_lookup_none (by decide +kernel), _, rfl, rd_fld hp T.c_CA T.n_CA_wish (zip_lookup nm_ask_wish rfl rfl) (rd_tC (i := 1) ht rfl ⟨_, rfl, A.b, A.d, L, m, s.bk, x, u, rfl, h.bo, hx, c2, hm, c1, by omega, fun H1 h1 k1 => ?_⟩)⟩⟩
      have kk : Kp A.foot H H1 := ⟨fun c o hc n => k1 c o hc fun z => n (.inr (.inl z)), fun c xs hc => k1 c _ hc (ne_of hc h.bo.dc (fun z => nomatch z))⟩
      obtain ⟨vs, qa, pa⟩ := h.ac
      obtain ⟨es, qe, pe⟩ := h.en
      have hp1 := k1 _ _ hp h.npd
      have h2 : AskAt CA CB H1 A L { s with bk := s.bk ++ [(u, m)] } :=
        ⟨⟨dx, _, hp1, by rw [show ({ s with bk := s.bk ++ [(u, m)] } : ASt).wish = .ask u from hwi]; exact hw.tx kk.tx⟩, h1, ⟨vs, k1 _ _ qa h.nda.symm, Paired.mapP pa fun _ _ q => q.tx kk.tx⟩, ⟨es, k1 _ _ qe h.nde.symm, Paired.mapP pe fun _ _ q => q.tx kk.tx⟩, h.npb, h.nae⟩
      refine ⟨_, rfl, A.p, dx, _, rfl, hp1, zip_lookup_none (by decide +kernel), A, L, 3, _, s', rfl, h2, hst, fun H3 h3 k3 => k H3 h3 (kk.trans k3)⟩
    · rw [if_neg hc] at hst
      cases hst

def initS : ASt := ⟨[], [[]], .non⟩
def spAskInit (CA CB : Addr) : Sp := fun vs H Q _ => ∃ (p dx : Addr) (L n : Nat) (s' : ASt), vs = [.ref p, nv L, nv 2] ∧ H p = some (.ins CA dx []) ∧ settleF L n initS = some s' ∧
  ∀ A H', A.p = p → AskAt CA CB H' A L s' → H A.b = none → H A.d = none → H A.a = none → H A.e = none → (∀ c o, H c = some o → c ≠ p → H' c = some o) → Q .non H'
theorem ok_Asker_init (T : Txt K mg CB CA CC) : GoodI P w K mg base 8 "Asker" CA ["self", "letters", "most"] (spAskInit CA CB) := by
  refine T.Asker_init.good sc_Asker_init (fun vs H Q E h => ?_) (fun f cdv A outer s H vs Q E hr h => ?_)
  · obtain ⟨p, dx, L, n, s', rfl, _⟩ := h
    rfl
  · obtain ⟨p, dx, L, n, s', rfl, hp, hst, k⟩ := h
    refine ⟨_, 
      (pss_cons (ps_fld (pv 0) (pv 1) rfl)
      (pss_cons (ps_fld (pv 0) (pv 2) rfl)
      (pss_cons (ps_fld (pv 0) (pe_makeG (ok_Book_init T) (hr.mono (by decide)) rfl (pa_cons (pv 1) pa_nil)) rfl)
      (pss_cons (ps_fld (pv 0) (pe_lst (pa_cons (pe_tupX pa_nil) pa_nil)) rfl)
      (pss_cons (ps_fld (pv 0) (pe_lst (pa_cons (pe_tupX pa_nil) pa_nil)) rfl)
      (pss_cons (ps_fld (pv 0) pe_non rfl)
      (pss_cons (ps_fld (pv 0) pe_non rfl)
      (pss_one (ps_expr (pe_methG0 (ok_Asker_settle T) (hr.mono (by decide)) (pv 0))))))))))), ?_⟩
    -- what is kept of the heap at the entry
    have e1 : putF "letters" (nv L) [] = (["letters"] : List Str).zip [nv L] := rfl
    have e2 : putF "most" (nv 2) ((["letters"] : List Str).zip [nv L]) = (["letters", "most"] : List Str).zip [nv L, nv 2] := putF_snoc (by decide +kernel) rfl
    refine ⟨_, rfl, _, rfl, p, CA, dx, _, rfl, hp, T.c_CA, T.n_CA_letters, (by show 0 < 1000; decide), ?_⟩
    rw [e1]
    refine ⟨_, rfl, _, rfl, p, CA, dx, _, rfl, upd_same, T.c_CA, T.n_CA_most, (by show 1 < 1000; decide), ?_⟩
    rw [e2, upd_upd]
    generalize hH2 : upd H p (.ins CA dx ((["letters", "most"] : List Str).zip [nv L, nv 2])) = H2
    have p2 : H2 p = some (.ins CA dx ((["letters", "most"] : List Str).zip [nv L, nv 2])) := by rw [← hH2, upd_same]
    have k2 : ∀ c o, H c = some o → c ≠ p → H2 c = some o := fun c o h n => by rw [← hH2, upd_ne n]; exact h
    have f2 : ∀ c, H2 c = none → H c = none := fun c h => by
      cases e : H c with
      | none => rfl
      | some o =>
        by_cases n : c = p
        · rw [n, p2] at h
          cases h
        · rw [k2 c o e n] at h
          cases h
    clear hH2
    refine ⟨_, rfl, fun x dy hx hdy ne => ?_⟩
    have npx : p ≠ x := ne_of_none p2 hx
    have npy : p ≠ dy := ne_of_none p2 hdy
    refine ⟨x, dy, L, rfl, upd_same, fun d H4 hd hd4 hx4 k4 => ⟨rfl, ?_⟩⟩
    have hd2 : H2 d = none := by
      by_cases n1 : d = x
      · rw [n1]; exact hx
      · by_cases n2 : d = dy
        · rw [n2]; exact hdy
        · rw [upd_ne n1, upd_ne n2] at hd
          exact hd
    have k24 : ∀ c o, H2 c = some o → H4 c = some o := fun c o h => k4 c o (by rw [upd_ne (ne_of_none h hx), upd_ne (ne_of_none h hdy)]; exact h) (ne_of_none h hx)
    have p4 := k24 _ _ p2
    have npd : p ≠ d := ne_of_none p2 hd2
    have e3 : putF "book" (.ref x) ((["letters", "most"] : List Str).zip [nv L, nv 2]) = (["letters", "most", "book"] : List Str).zip [nv L, nv 2, .ref x] := putF_snoc (by decide +kernel) rfl
    refine ⟨_, rfl, p, CA, dx, _, rfl, p4, T.c_CA, T.n_CA_book, (by show 2 < 1000; decide), ?_⟩
    rw [e3]
    -- ways
    refine ⟨Nat.zero_le _, fun t1 H5 s5 ht1 => ⟨by show 1 ≤ sizeLine; decide, fun a ha => ?_⟩⟩
    have p5 := s5 _ _ upd_same
    have npa : p ≠ a := ne_of_none p5 ha
    have e4 : putF "ways" (.ref a) ((["letters", "most", "book"] : List Str).zip [nv L, nv 2, .ref x]) = (["letters", "most", "book", "ways"] : List Str).zip [nv L, nv 2, .ref x, .ref a] := putF_snoc (by decide +kernel) rfl
    refine ⟨_, rfl, p, CA, dx, _, rfl, (by rw [upd_ne npa]; exact p5), T.c_CA, T.n_CA_ways, (by show 3 < 1000; decide), ?_⟩
    rw [e4]
    -- what stands now
    have k45 : ∀ c o, H4 c = some o → c ≠ p → H5 c = some o := fun c o h n => s5 _ _ (by rw [upd_ne n]; exact h)
    have hx5 := k45 _ _ hx4 npx.symm
    have hd5 := k45 _ _ hd4 npd.symm
    have nax : a ≠ x := (ne_of_none hx5 ha).symm
    have nad : a ≠ d := (ne_of_none hd5 ha).symm
    have nat1 : t1 ≠ a := ne_of_none ht1 ha
    generalize hH6 : upd (upd H5 a (.lst [.ref t1])) p (.ins CA dx ((["letters", "most", "book", "ways"] : List Str).zip [nv L, nv 2, .ref x, .ref a])) = H6
    have p6 : H6 p = some (.ins CA dx ((["letters", "most", "book", "ways"] : List Str).zip [nv L, nv 2, .ref x, .ref a])) := by rw [← hH6, upd_same]
    have k56 : ∀ c o, H5 c = some o → c ≠ p → H6 c = some o := fun c o h n => by rw [← hH6, upd_ne n, upd_ne (ne_of_none h ha)]; exact h
    have a6 : H6 a = some (.lst [.ref t1]) := by rw [← hH6, upd_ne npa.symm, upd_same]
    have nt1p : t1 ≠ p := ne_of ht1 p5 (fun z => nomatch z)
    have t6 : H6 t1 = some (.tup []) := k56 _ _ ht1 nt1p
    clear hH6
    refine ⟨Nat.zero_le _, fun t2 H7 s7 ht2 => ⟨by show 1 ≤ sizeLine; decide, fun e he => ?_⟩⟩
    have p7 := s7 _ _ p6
    have npe : p ≠ e := ne_of_none p7 he
    have e5 : putF "ends" (.ref e) ((["letters", "most", "book", "ways"] : List Str).zip [nv L, nv 2, .ref x, .ref a]) = (["letters", "most", "book", "ways", "ends"] : List Str).zip [nv L, nv 2, .ref x, .ref a, .ref e] := putF_snoc (by decide +kernel) rfl
    refine ⟨_, rfl, p, CA, dx, _, rfl, (by rw [upd_ne npe]; exact p7), T.c_CA, T.n_CA_ends, (by show 4 < 1000; decide), ?_⟩
    rw [e5]
    have e6 : putF "hunt" .non ((["letters", "most", "book", "ways", "ends"] : List Str).zip [nv L, nv 2, .ref x, .ref a, .ref e]) = (["letters", "most", "book", "ways", "ends", "hunt"] : List Str).zip [nv L, nv 2, .ref x, .ref a, .ref e, .non] := putF_snoc (by decide +kernel) rfl
    refine ⟨_, rfl, p, CA, dx, _, rfl, upd_same, T.c_CA, T.n_CA_hunt, (by show 5 < 1000; decide), ?_⟩
    rw [e6, upd_upd]
    have e7 : putF "wish" .non ((["letters", "most", "book", "ways", "ends", "hunt"] : List Str).zip [nv L, nv 2, .ref x, .ref a, .ref e, .non]) = askN.zip [nv L, nv 2, .ref x, .ref a, .ref e, .non, .non] := putF_snoc (by decide +kernel) rfl
    refine ⟨_, rfl, p, CA, dx, _, rfl, upd_same, T.c_CA, T.n_CA_wish, (by show 6 < 1000; decide), ?_⟩
    rw [e7, upd_upd]
    generalize hH8 : upd (upd H7 e (.lst [.ref t2])) p (.ins CA dx (askN.zip [nv L, nv 2, .ref x, .ref a, .ref e, .non, .non])) = H8
    have p8 : H8 p = some (.ins CA dx (askN.zip [nv L, nv 2, .ref x, .ref a, .ref e, .non, .non])) := by rw [← hH8, upd_same]
    have k78 : ∀ c o, H7 c = some o → c ≠ p → H8 c = some o := fun c o h n => by rw [← hH8, upd_ne n, upd_ne (ne_of_none h he)]; exact h
    have en8 : H8 e = some (.lst [.ref t2]) := by rw [← hH8, upd_ne npe.symm, upd_same]
    clear hH8
    have k68 : ∀ c o, H6 c = some o → c ≠ p → H8 c = some o := fun c o h n => k78 c o (s7 _ _ h) n
    have k08 : ∀ c o, H c = some o → c ≠ p → H8 c = some o := fun c o h n => k68 c o (k56 c o (k45 c o (k24 c o (k2 c o h n)) n) n) n
    have nt2p : t2 ≠ p := ne_of ht2 p7 (fun z => nomatch z)
    have emp : tw ([] : Wd) = [] := rfl
    have A8 : AskAt CA CB H8 ⟨p, x, d, a, e⟩ L initS :=
      ⟨⟨dx, .non, p8, rfl⟩, ⟨⟨dy, k68 _ _ (k56 _ _ hx5 npx.symm) npx.symm⟩, k68 _ _ (k56 _ _ hd5 npd.symm) npd.symm⟩, ⟨[.ref t1], k68 _ _ a6 npa.symm, .cons ⟨t1, rfl, k68 _ _ t6 nt1p⟩ .nil⟩, ⟨[.ref t2], en8, .cons ⟨t2, rfl, k78 _ _ ht2 nt2p⟩ .nil⟩, npx, ne_of_none (s7 _ _ a6) he⟩
    refine ⟨_, rfl, p, dx, _, rfl, p8, zip_lookup_none (by decide +kernel), ⟨p, x, d, a, e⟩, L, n, initS, s', rfl, A8, hst, fun H9 h9 k9 => ?_⟩
    have fr : ∀ c o, H c = some o → H8 c = none → c = p := fun c o h h' => by
      by_cases n : c = p
      · exact n
      · rw [k08 c o h n] at h'
        cases h'
    have a0 : H a = none := by
      cases q : H a with
      | none => rfl
      | some o => 
        have := k45 _ _ (k24 _ _ (k2 _ _ q npa.symm)) npa.symm
        rw [ha] at this
        cases this
    have en0 : H e = none := by
      cases q : H e with
      | none => rfl
      | some o => 
        have := s7 _ _ (k56 _ _ (k45 _ _ (k24 _ _ (k2 _ _ q npe.symm)) npe.symm) npe.symm)
        rw [he] at this
        cases this
    refine k ⟨p, x, d, a, e⟩ H9 rfl h9 (f2 _ hx) (f2 _ hd2) a0 en0 fun c o h n => k9.kp c o (k08 c o h n) ?_
    rintro (z | z | z)
    · exact n z
    · rw [show c = d from z, f2 _ hd2] at h
      cases h
    · rw [show c = a from z, a0] at h
      cases h
end
end Gr
namespace Gr
open PySem L2
def IsHs (H : Hp) (v : V) (gs : List Hs) : Prop := ∃ x hv, v = .ref x ∧ H x = some (.tup hv) ∧ Paired (IsH H) hv gs
theorem IsHs.tx {H H' : Hp} {v : V} {gs : List Hs} (h : IsHs H v gs) (e : Tx H H') : IsHs H' v gs := by
  obtain ⟨x, hv, rfl, h2, h3⟩ := h
  exact ⟨x, hv, rfl, e _ _ h2, Paired.mapP h3 fun _ _ q => q.tx e⟩
def IsWorks (H : Hp) (v : V) (gs : List Hs) : Prop := ∃ t x, v = .ref t ∧ H t = some (.tup [nv 1, x]) ∧ IsHs H x gs
theorem IsWorks.tx {H H' : Hp} {v : V} {gs : List Hs} (h : IsWorks H v gs) (e : Tx H H') : IsWorks H' v gs := by
  obtain ⟨t, x, rfl, h1, h2⟩ := h
  exact ⟨t, x, rfl, e _ _ h1, h2.tx e⟩
def markOf (gs : List Hs) (q : Pt) : Nat := match gs[q.1]? with
  | some g => markH g q.2
  | none => 0
def takesB (gs : List Hs) (u : Wd) : Bool := (partsF gs.length u).all fun q => decide (markOf gs q ≠ 0)
section
variable {P : Program} {w : World} {K : PySem.W.Frag} {mg : Str → Option Value} {base : Heap} {CB CA CC : Addr}
def spTakes : Sp := fun vs H Q _ => ∃ (gs : List Hs) (wv v : V) (u : Wd), vs = [wv, v] ∧ IsWorks H wv gs ∧ IsW H v u ∧ nestF gs.length u 0 = true ∧ u.length ≤ 1000 ∧
  (∀ q ∈ partsF gs.length u, ∃ g, gs[q.1]? = some g ∧ HsOk g ∧ (∀ x ∈ q.2, x < g.L) ∧ q.2.length ≤ 1000) ∧ ∀ H', Same H H' → Q (.bl (takesB gs u)) H'
theorem ok_takes (T : Txt K mg CB CA CC) : Good P w K mg base 5 "takes" ["works", "signs"] spTakes := by
  refine T.takes.good sc_takes (fun vs H Q E h => ?_) (fun f cdv A outer s H vs Q E hr h => ?_)
  · obtain ⟨gs, wv, v, u, rfl, _⟩ := h
    rfl
  · obtain ⟨gs, wv, v, u, rfl, ⟨t, xv, rfl, ht, x, hv, rfl, hx, pg⟩, hu, hn, hz, hall, k⟩ := h
    refine ⟨_, 
      (pss_cons (ps_asg (pv 0) (pg_tup rfl (pgs_cons (pg_name (i := 2) sc_takes.nd rfl (Or.inl rfl)) (pgs_cons (pg_name (i := 3) sc_takes.nd rfl (Or.inl rfl)) pgs_nil))))
      (pss_cons (ps_for PassesOwn.never rfl (pi_list (pe_callG (ok_parts T) (hr.mono (by decide)) rfl (pa_cons (pv 2) (pa_cons (pe_callB call_len_seq (by rfl) T.no_len PySem.boot_len (pa_cons (pv 3) pa_nil)) (pa_cons (pv 1) pa_nil))))) (pg_tup rfl (pgs_cons (pg_name (i := 4) sc_takes.nd rfl (Or.inl rfl)) (pgs_cons (pg_name (i := 5) sc_takes.nd rfl (Or.inl rfl)) pgs_nil))) 
        (pss_one (ps_if (pt_cmpR op_eq (pe_callG (ok_mark_behind T) (hr.mono (by decide)) rfl (pa_cons (pe_ix ix_tup (pv 3) (pv 4) (fun _ _ => rfl)) (pa_cons (pv 5) pa_nil))) pe_int (nomark _)) 
          (pss_one (ps_ret pe_bl)) pss_nil)))
      (pss_one (ps_ret pe_bl)))), ?_⟩
    have lg : hv.length = gs.length := Paired.length pg
    refine ⟨_, rfl, t, _, rfl, SqT.of ht, rfl, _, _, rfl, _, _, rfl, rfl, ?_⟩
    refine ⟨_, rfl, _, rfl, x, hv, rfl, .inr (SqT.of hx), _, rfl, gs.length, v, u, (by rw [lg]; rfl), hu, hn, hz, fun p H1 hp s1 ⟨xs, hxs, pr⟩ => ?_⟩
    have lx : xs.length = (partsF gs.length u).length := Paired.length pr
    refine ⟨p, rfl, ⟨_, SqL.of hxs⟩, for_list (K := K) (a := p) (xs := xs) (fun i σ H' => Same H1 H' ∧ ((partsF gs.length u).take i).all (fun q => decide (markOf gs q ≠ 0)) = true ∧ ∃ x4 x5, σ = [some (.ref t), some v, some (nv 1), some (.ref x), x4, x5])
      ⟨Same.refl _, rfl, none, none, rfl⟩ (fun i σ H' _ q => SqL.of (q.1 _ _ hxs)) ?_ ?_⟩
    · rintro i y σ H2 hy ⟨s2, ha, x4, x5, rfl⟩
      obtain ⟨q, hq, hyq⟩ := pair_get' pr hy
      obtain ⟨g, hg, ho, hl, hl2⟩ := hall q (List.mem_of_getElem? hq)
      obtain ⟨r, z, rfl, hr1, hz1⟩ := hyq.tx (.of s2)
      have s12 := s1.trans s2
      obtain ⟨gv, hgv, hgh⟩ := pair_get pg hg
      refine ⟨r, _, rfl, SqT.of hr1, rfl, _, _, rfl, _, _, rfl, rfl, ?_⟩
      refine ⟨_, rfl, _, rfl, rd_t (s12 _ _ hx) hgv ⟨_, rfl, gv, z, g, q.2, rfl, hgh.mono s12, ho, hz1, hl, hl2, fun H3 s3 => ⟨rfl, _, rfl, ?_⟩⟩⟩
      have em : markOf gs q = markH g q.2 := by rw [markOf, hg]
      rw [deI]
      by_cases h0 : markH g q.2 = 0
      · rw [decide_eq_true (show ((markH g q.2 : Nat) : Int) = 0 by omega)]
        refine iteT ?_
        have e : takesB gs u = false := by
          rw [takesB, List.all_eq_false]
          exact ⟨q, List.mem_of_getElem? hq, by rw [em, h0]; simp⟩
        have := k H3 (s12.trans s3)
        rw [e] at this
        exact this
      · rw [decide_eq_false (show ¬ ((markH g q.2 : Nat) : Int) = 0 by omega)]
        refine iteF ⟨s2.trans s3, ?_, _, _, rfl⟩
        rw [List.take_add_one, hq, List.all_append, ha]
        simp [em, h0]
    · rintro σ H2 ⟨s2, ha, x4, x5, rfl⟩
      rw [lx, List.take_length] at ha
      have := k H2 (s1.trans s2)
      rw [takesB, ha] at this
      exact this
end
end Gr
namespace Gr
open PySem L2
/-! ### the asker of works: its state -/
inductive CWish where
  | non | ask (r : Wd) | shw (gs : List Hs) | done (gs : List Hs)
  deriving DecidableEq
abbrev Ans := List (Wd × Bool)
structure CSt where
  ans : Ans
  asks : List ASt
  wish : CWish
def ansOf (ans : Ans) (u : Wd) : Option Bool := (ans.find? fun p => decide (p.1 = u)).map (·.2)
def kvC (ans : Ans) : List (List L2.Key × V) := ans.map fun p => (keyW p.1, .bl p.2)
theorem valV_kvC (u : Wd) : ∀ ans : Ans, valV (kvC ans) (keyW u) = (ansOf ans u).map V.bl
  | [] => rfl
  | p :: ans => by
    have ih := valV_kvC u ans
    by_cases e : p.1 = u
    · have e1 : valV (kvC (p :: ans)) (keyW u) = some (.bl p.2) := valV_pos (p := (keyW p.1, V.bl p.2)) (by rw [e])
      rw [e1]
      simp [ansOf, List.find?_cons, e]
    · have e1 : valV (kvC (p :: ans)) (keyW u) = valV (kvC ans) (keyW u) := valV_neg (p := (keyW p.1, V.bl p.2)) fun q => e (keyW_inj q)
      rw [e1, ih]
      simp [ansOf, List.find?_cons, e]
def IsCW (H : Hp) (v : V) : CWish → Prop
  | .non => v = .non
  | .ask u => ∃ t x, v = .ref t ∧ H t = some (.tup [.str "ask", x]) ∧ IsW H x u
  | .shw gs => ∃ t x, v = .ref t ∧ H t = some (.tup [.str "show", x]) ∧ IsWorks H x gs
  | .done gs => ∃ t x, v = .ref t ∧ H t = some (.tup [.str "done", x]) ∧ IsWorks H x gs
theorem IsCW.tx {H H' : Hp} {v : V} {s : CWish} (h : IsCW H v s) (e : Tx H H') : IsCW H' v s := by
  cases s with
  | non => exact h
  | ask u =>
    obtain ⟨t, x, rfl, h1, h2⟩ := h
    exact ⟨t, x, rfl, e _ _ h1, h2.tx e⟩
  | shw u =>
    obtain ⟨t, x, rfl, h1, h2⟩ := h
    exact ⟨t, x, rfl, e _ _ h1, h2.tx e⟩
  | done u =>
    obtain ⟨t, x, rfl, h1, h2⟩ := h
    exact ⟨t, x, rfl, e _ _ h1, h2.tx e⟩
abbrev callN : List Str := ["plain", "helpers", "uses", "answers", "askers", "pending", "source", "wish"]
structure Cd where
  q : Addr
  ul : Addr
  an : Addr
  al : Addr
  pl : Addr
  ads : List Ad
def Ad.all (A : Ad) (x : Addr) : Prop := x = A.p ∨ x = A.b ∨ x = A.d ∨ x = A.a ∨ x = A.e
theorem Ad.foot_all {A : Ad} {x : Addr} (h : A.foot x) : A.all x := by
  rcases h with h | h | h
  · exact .inl h
  · exact .inr (.inr (.inl h))
  · exact .inr (.inr (.inr (.inl h)))
def Cd.foot (c : Cd) (x : Addr) : Prop := x = c.q ∨ x = c.an ∨ ∃ A ∈ c.ads, A.foot x
def callF (c : Cd) (n : Nat) (wv : V) : List (Str × V) := callN.zip [nv 1, nv n, .ref c.ul, .ref c.an, .ref c.al, .ref c.pl, .non, wv]
structure CallAt (CA CB CC : Addr) (H : Hp) (c : Cd) (n : Nat) (s : CSt) : Prop where
  ob : ∃ dx wv, H c.q = some (.ins CC dx (callF c n wv)) ∧ IsCW H wv s.wish
  us : IsUses H c.ul n
  an : H c.an = some (.dT (kvC s.ans))
  al : H c.al = some (.lst (c.ads.map fun A => .ref A.p))
  pl : H c.pl = some (.lst [])
  len : c.ads.length = n
  lens : s.asks.length = n
  ask : ∀ (j : Nat) (A : Ad) (a : ASt), c.ads[j]? = some A → s.asks[j]? = some a → AskAt CA CB H A (1 + n) a
  sep : ∀ (i j : Nat) (A B : Ad), c.ads[i]? = some A → c.ads[j]? = some B → i ≠ j → ∀ x, A.all x → ¬ B.all x
  bs : ∀ x, (x = c.q ∨ x = c.ul ∨ x = c.an ∨ x = c.al ∨ x = c.pl) → ∀ A ∈ c.ads, ¬ A.all x
theorem nm_c_plain : ixOf callN "plain" = some 0 := by decide +kernel
theorem nm_c_helpers : ixOf callN "helpers" = some 1 := by decide +kernel
theorem nm_c_uses : ixOf callN "uses" = some 2 := by decide +kernel
theorem nm_c_answers : ixOf callN "answers" = some 3 := by decide +kernel
theorem nm_c_askers : ixOf callN "askers" = some 4 := by decide +kernel
theorem nm_c_pending : ixOf callN "pending" = some 5 := by decide +kernel
theorem nm_c_wish : ixOf callN "wish" = some 7 := by decide +kernel
section
variable {CA CB CC : Addr} {H H' : Hp} {c : Cd} {n : Nat} {s : CSt}
theorem AskAt.none_p {A : Ad} {a : ASt} {L : Nat} (h : AskAt CA CB H A L a) : ∀ x, A.all x → ∃ o, H x = some o := by
  rintro x (rfl | rfl | rfl | rfl | rfl)
  · obtain ⟨_, _, q, _⟩ := h.ob
    exact ⟨_, q⟩
  · obtain ⟨_, q⟩ := h.bo.ob
    exact ⟨_, q⟩
  · exact ⟨_, h.bo.dc⟩
  · obtain ⟨_, q, _⟩ := h.ac
    exact ⟨_, q⟩
  · obtain ⟨_, q, _⟩ := h.en
    exact ⟨_, q⟩
theorem CallAt.mono (h : CallAt CA CB CC H c n s) (e : Same H H') : CallAt CA CB CC H' c n s :=
  ⟨let ⟨dx, wv, q, r⟩ := h.ob; ⟨dx, wv, e _ _ q, r.tx (.of e)⟩, h.us.mono e, e _ _ h.an, e _ _ h.al, e _ _ h.pl, h.len, h.lens, fun j A a h1 h2 => (h.ask j A a h1 h2).mono e, h.sep, h.bs⟩
/-- a change at an address of its own that is no asker's: the instance, the dict of answers -/
theorem CallAt.asks_keep (h : CallAt CA CB CC H c n s) {x : Addr} {o u : HO} (hx : x = c.q ∨ x = c.an) (ho : H x = some o) (no : ∀ xs, o ≠ .tup xs) :
    ∀ (j : Nat) (A : Ad) (a : ASt), c.ads[j]? = some A → s.asks[j]? = some a → AskAt CA CB (upd H x u) A (1 + n) a := fun j A a h1 h2 => by
  have hm := List.mem_of_getElem? h1
  have hx' : x = c.q ∨ x = c.ul ∨ x = c.an ∨ x = c.al ∨ x = c.pl := by
    rcases hx with e | e
    · exact .inl e
    · exact .inr (.inr (.inl e))
  have nx := h.bs x hx' A hm
  refine (h.ask j A a h1 h2).kp (M := fun y => y = x) ((Kp.refl H).upd rfl ho no) ?_ ?_ ?_ ?_ ?_
  · exact fun z => nx (.inl z.symm)
  · exact fun z => nx (.inr (.inl z.symm))
  · exact fun z => nx (.inr (.inr (.inl z.symm)))
  · exact fun z => nx (.inr (.inr (.inr (.inl z.symm))))
  · exact fun z => nx (.inr (.inr (.inr (.inr z.symm))))
theorem CallAt.nq (h : CallAt CA CB CC H c n s) : c.q ≠ c.ul ∧ c.q ≠ c.an ∧ c.q ≠ c.al ∧ c.q ≠ c.pl ∧ c.an ≠ c.ul ∧ c.an ≠ c.al ∧ c.an ≠ c.pl := by
  obtain ⟨dx, wv, q, _⟩ := h.ob
  obtain ⟨us, u, _⟩ := h.us
  exact ⟨ne_of q u (fun z => nomatch z), ne_of q h.an (fun z => nomatch z), ne_of q h.al (fun z => nomatch z), ne_of q h.pl (fun z => nomatch z), ne_of h.an u (fun z => nomatch z), ne_of h.an h.al (fun z => nomatch z), ne_of h.an h.pl (fun z => nomatch z)⟩
theorem callF_put (c : Cd) (n : Nat) (wv x : V) : putF "wish" x (callF c n wv) = callF c n x := putF_zip nm_c_wish rfl
theorem CallAt.setWish (h : CallAt CA CB CC H c n s) {dx : Addr} {wv x : V} {ws : CWish} (q : H c.q = some (.ins CC dx (callF c n wv))) (hx : IsCW H x ws) :
    CallAt CA CB CC (upd H c.q (.ins CC dx (putF "wish" x (callF c n wv)))) c n { s with wish := ws } := by
  have nt : Tx H (upd H c.q (.ins CC dx (putF "wish" x (callF c n wv)))) := fun a xs e => by
    rw [upd_ne (ne_of e q (fun z => nomatch z))]
    exact e
  obtain ⟨n1, n2, n3, n4, n5, n6, n7⟩ := h.nq
  refine ⟨⟨dx, x, by rw [upd_same, callF_put], hx.tx nt⟩, h.us.tx nt fun vs e => by rw [upd_ne n1.symm]; exact e, by rw [upd_ne n2.symm]; exact h.an, by rw [upd_ne n3.symm]; exact h.al, by rw [upd_ne n4.symm]; exact h.pl, h.len, h.lens, h.asks_keep (.inl rfl) q (fun xs z => nomatch z), h.sep, h.bs⟩
/-- an answer more -/
theorem CallAt.put (h : CallAt CA CB CC H c n s) {u : Wd} {b : Bool} : CallAt CA CB CC (upd H c.an (.dT (kvC (s.ans ++ [(u, b)])))) c n { s with ans := s.ans ++ [(u, b)] } := by
  have nt : Tx H (upd H c.an (.dT (kvC (s.ans ++ [(u, b)])))) := fun a xs e => by
    rw [upd_ne (ne_of e h.an (fun z => nomatch z))]
    exact e
  obtain ⟨n1, n2, n3, n4, n5, n6, n7⟩ := h.nq
  obtain ⟨dx, wv, q, r⟩ := h.ob
  exact ⟨⟨dx, wv, by rw [upd_ne n2]; exact q, r.tx nt⟩, h.us.tx nt fun vs e => by rw [upd_ne n5.symm]; exact e, upd_same, by rw [upd_ne n6.symm]; exact h.al, by rw [upd_ne n7.symm]; exact h.pl, h.len, h.lens, h.asks_keep (.inr rfl) h.an (fun xs z => nomatch z), h.sep, h.bs⟩
/-- an asker has gone on -/
theorem CallAt.step (h : CallAt CA CB CC H c n s) {j : Nat} {A : Ad} {a a' : ASt} (hA : c.ads[j]? = some A) (ha : s.asks[j]? = some a) (k : Kp A.foot H H') (h' : AskAt CA CB H' A (1 + n) a') :
    CallAt CA CB CC H' c n { s with asks := s.asks.set j a' } := by
  have hm := List.mem_of_getElem? hA
  have nb : ∀ x, (x = c.q ∨ x = c.ul ∨ x = c.an ∨ x = c.al ∨ x = c.pl) → ¬ A.foot x := fun x hx z => h.bs x hx A hm (Ad.foot_all z)
  obtain ⟨dx, wv, q, r⟩ := h.ob
  refine ⟨⟨dx, wv, k.kp _ _ q (nb _ (.inl rfl)), r.tx k.tx⟩, h.us.tx k.tx fun vs e => k.kp _ _ e (nb _ (.inr (.inl rfl))), k.kp _ _ h.an (nb _ (.inr (.inr (.inl rfl)))), k.kp _ _ h.al (nb _ (.inr (.inr (.inr (.inl rfl))))), k.kp _ _ h.pl (nb _ (.inr (.inr (.inr (.inr rfl))))), h.len, by rw [List.length_set]; exact h.lens, fun i B b h1 h2 => ?_, h.sep, h.bs⟩
  by_cases e : i = j
  · subst e
    rw [hA] at h1
    cases h1
    rw [List.getElem?_set_self (List.getElem?_eq_some_iff.mp ha).1] at h2
    cases h2
    exact h'
  · rw [List.getElem?_set_ne (Ne.symm e)] at h2
    have nf : ∀ x, B.all x → ¬ A.foot x := fun x hx z => h.sep i j B A h1 hA e x hx (Ad.foot_all z)
    exact (h.ask i B b h1 h2).kp k (nf _ (.inl rfl)) (nf _ (.inr (.inl rfl))) (nf _ (.inr (.inr (.inl rfl)))) (nf _ (.inr (.inr (.inr (.inl rfl))))) (nf _ (.inr (.inr (.inr (.inr rfl)))))
theorem Kp.ofAsk {A : Ad} (hm : A ∈ c.ads) (k : Kp A.foot H H') : Kp c.foot H H' := k.mono fun _ z => .inr (.inr ⟨A, hm, z⟩)
end
section
variable {P : Program} {w : World} {K : PySem.W.Frag} {mg : Str → Option Value} {base : Heap} {CB CA CC : Addr}
def spCallWants (CA CB CC : Addr) : Sp := fun vs H Q _ => ∃ (c : Cd) (n : Nat) (s : CSt), vs = [.ref c.q] ∧ CallAt CA CB CC H c n s ∧ ∀ wv, IsCW H wv s.wish → Q wv H
theorem ok_CallAsker_wants (T : Txt K mg CB CA CC) : GoodM P w K mg base 1 CC "wants" ["self"] (spCallWants CA CB CC) := by
  refine T.CallAsker_wants.good sc_CallAsker_wants (fun vs H Q E h => ?_) (fun f cdv A outer s H vs Q E hr h => ?_)
  · obtain ⟨c, n, s, rfl, _⟩ := h
    rfl
  · obtain ⟨c, n, s, rfl, h, k⟩ := h
    refine ⟨_, 
      (pss_one (ps_ret (pe_fldX (pv 0) rfl))), ?_⟩
    obtain ⟨dx, wv, hp, hw⟩ := id h.ob
    exact ⟨_, rfl, rd_fld hp T.c_CC T.n_CC_wish (zip_lookup nm_c_wish rfl rfl) (k wv hw)⟩

def spCallAgree (CA CB CC : Addr) : Sp := fun vs H Q _ => ∃ (c : Cd) (n : Nat) (s : CSt) (gs : List Hs), vs = [.ref c.q] ∧ CallAt CA CB CC H c n s ∧ s.wish = .shw gs ∧
  ∀ H', CallAt CA CB CC H' c n { s with wish := .done gs } → Kp c.foot H H' → Q .non H'
theorem ok_CallAsker_agree (T : Txt K mg CB CA CC) : GoodM P w K mg base 1 CC "agree" ["self"] (spCallAgree CA CB CC) := by
  refine T.CallAsker_agree.good sc_CallAsker_agree (fun vs H Q E h => ?_) (fun f cdv A outer s H vs Q E hr h => ?_)
  · obtain ⟨c, n, s, gs, rfl, _⟩ := h
    rfl
  · obtain ⟨c, n, s, gs, rfl, h, hw, k⟩ := h
    refine ⟨_, 
      (pss_cons (ps_if (pt_cmpR op_ne (pe_ixTC (pe_fldX (pv 0) rfl)) pe_str (nomark _)) pss_never pss_nil)
      (pss_one (ps_fld (pv 0) (pe_tupX (pa_cons pe_str (pa_cons (pe_ixTC (pe_fldX (pv 0) rfl)) pa_nil))) rfl))), ?_⟩
    obtain ⟨dx, wv, hq, hwv⟩ := id h.ob
    rw [hw] at hwv
    obtain ⟨t, x, rfl, ht, hx⟩ := hwv
    refine ⟨_, rfl, rd_fld hq T.c_CC T.n_CC_wish (zip_lookup nm_c_wish rfl rfl) (rd_tC (i := 0) ht rfl ⟨rfl, _, rfl, iteNS rfl ?_⟩)⟩
    refine ⟨_, rfl, rd_fld hq T.c_CC T.n_CC_wish (zip_lookup nm_c_wish rfl rfl) (rd_tC (i := 1) ht rfl ⟨by show 2 ≤ sizeLine; decide, fun t2 H1 e1 ht2 => ?_⟩)⟩
    have hq1 := e1 _ _ hq
    refine ⟨_, rfl, c.q, CC, dx, _, rfl, hq1, T.c_CC, T.n_CC_wish, (by show 8 < 1000; decide), ?_⟩
    exact k _ ((h.mono e1).setWish hq1 ⟨t2, x, rfl, ht2, hx.tx (.of e1)⟩) ((Kp.of e1).upd (.inl rfl) hq1 (fun xs z => nomatch z))

def spCallHeard (CA CB CC : Addr) : Sp := fun vs H Q _ => ∃ (c : Cd) (n : Nat) (s : CSt), vs = [.ref c.q] ∧ CallAt CA CB CC H c n s ∧ s.ans.length ≤ 10000 ∧ ∀ p H', H p = none → Same H H' → IsPairs H' p (kvC s.ans) → Q (.ref p) H'
theorem ok_CallAsker_heard (T : Txt K mg CB CA CC) : GoodM P w K mg base 1 CC "heard" ["self"] (spCallHeard CA CB CC) := by
  refine T.CallAsker_heard.good sc_CallAsker_heard (fun vs H Q E h => ?_) (fun f cdv A outer s H vs Q E hr h => ?_)
  · obtain ⟨c, n, s, rfl, _⟩ := h
    rfl
  · obtain ⟨c, n, s, rfl, h, hz, k⟩ := h
    have hu := hu_of hr
    refine ⟨_, 
      (pss_one (ps_ret (pe_lock (pe_lc (own := [("signs", 1), ("taken", 2)]) (g := gTup K 2 (gCons (gName 1) (gCons (gName 2) gNil))) (by rfl) sc_CallAsker_heard.nd (pi_itemsT (pe_fldX (pv 0) rfl)) (blkOk_by (own := [("signs", 1), ("taken", 2)]) (N := ["self", "signs", "taken"]) (sc := defScope s_CallAsker_heard) (by decide +kernel)) (fun _ _ _ _ _ => (pg_tup rfl (pgs_cons (pg_name (i := 1) sc_CallAsker_heard.nd rfl (Or.inl rfl)) (pgs_cons (pg_name (i := 2) sc_CallAsker_heard.nd rfl (Or.inl rfl)) pgs_nil)))) (fun _ _ _ _ _ => pts_nil) (fun _ _ _ _ _ => (pe_tupX (pa_cons (pv 1) (pa_cons (pv 2) pa_nil)))))))), ?_⟩
    have hd := h.an
    generalize hdd : c.an = d at hd
    generalize hkk : kvC s.ans = kv at hd
    have hzk : kv.length ≤ 10000 := by
      rw [← hkk]
      unfold kvC
      rw [List.length_map]
      exact hz
    refine ⟨d, _, hd, trivial, fun od => ?_⟩
    obtain ⟨dx, wv, hq, hw⟩ := h.ob
    have nbd : c.q ≠ d := ne_of hq hd (fun z => nomatch z)
    refine ⟨_, rfl, rd_fld (by rw [upd_ne nbd]; exact hq) T.c_CC T.n_CC_answers (zip_lookup nm_c_answers rfl rfl) ⟨d, od, _, by rw [hdd], upd_same, ?_⟩⟩
    refine rd_heard (Q := fun v H' => H' d = some (.frz od (.dT kv)) ∧ Q v (upd H' d (.dT kv))) (kvs := kv) (v0 := .ref c.q) upd_same hzk fun D H' vs hD s1 hvs pr => ⟨s1 _ _ upd_same, ?_⟩
    have nDd : D ≠ d := fun z => by
      rw [z, upd_same] at hD
      cases hD
    have tx : ∀ b xs, H' b = some (.tup xs) → (upd H' d (.dT kv)) b = some (.tup xs) := fun b xs e => by
      rw [upd_ne (fun z => by rw [z, s1 _ _ upd_same] at e; cases e)]
      exact e
    have k' := k D (upd H' d (.dT kv)) (by rw [upd_ne nDd] at hD; exact hD)
    rw [hkk] at k'
    refine k' (fun c2 o hc => ?_) ⟨vs, by rw [upd_ne nDd]; exact hvs, Paired.mapP pr fun x p e => ?_⟩
    · by_cases e : c2 = d
      · rw [e, upd_same]
        rw [e, hd] at hc
        exact hc
      · rw [upd_ne e]
        exact s1 c2 o (by rw [upd_ne e]; exact hc)
    · obtain ⟨t, x, rfl, h1, h2⟩ := e
      exact ⟨t, x, rfl, tx _ _ h1, tx _ _ h2⟩

/-- nothing is pending -/
def spPending (CA CB CC : Addr) : Sp := fun vs H Q _ => ∃ (c : Cd) (n : Nat) (s : CSt), vs = [.ref c.q] ∧ CallAt CA CB CC H c n s ∧ Q (.bl false) H
theorem ok_CallAsker_pending_step (T : Txt K mg CB CA CC) : GoodM P w K mg base 1 CC "pending_step" ["self"] (spPending CA CB CC) := by
  refine T.CallAsker_pending_step.good sc_CallAsker_pending_step (fun vs H Q E h => ?_) (fun f cdv A outer s H vs Q E hr h => ?_)
  · obtain ⟨c, n, s, rfl, _⟩ := h
    rfl
  · obtain ⟨c, n, s, rfl, h, k⟩ := h
    refine ⟨_, 
      (pss_cons (ps_if (pt_cmpR op_eq (pe_callB call_len_seq (by rfl) T.no_len PySem.boot_len (pa_cons (pe_fldX (pv 0) rfl) pa_nil)) pe_int (nomark _)) 
        (pss_one (ps_ret pe_bl)) pss_nil)
      pss_never), ?_⟩
    obtain ⟨dx, wv, hq, hw⟩ := id h.ob
    exact ⟨_, rfl, rd_fld hq T.c_CC T.n_CC_pending (zip_lookup nm_c_pending rfl rfl) ⟨c.pl, _, rfl, .inl (SqL.of h.pl), rfl, _, rfl, iteT k⟩⟩
end
end Gr
namespace Gr
open PySem L2
def useBad (n : Nat) (ans : Ans) (j : Nat) : Bool := decide (ansOf ans (rowW n j []) ≠ some true)
def useF (n : Nat) (ans : Ans) : Option (Option Wd) := match (List.range n).find? (useBad n ans) with
  | none => some none
  | some j => match ansOf ans (rowW n j []) with
    | none => some (some (rowW n j []))
    | some _ => none
def sWish (s : CSt) : Option Wd → CSt
  | none => s
  | some r => { s with wish := .ask r }
def b2n (b : Bool) : Nat := if b then 1 else 0
def localF (n : Nat) (s : CSt) (j : Nat) (a : ASt) (u : Wd) : Option (Bool × CSt) := match ansOf s.ans (useRow n j u) with
  | none => some (true, { s with wish := .ask (useRow n j u) })
  | some b => match hearF (1 + n) a u (b2n b) with
    | some a' => some (false, { s with asks := s.asks.set j a' })
    | none => none
def guessOf (a : ASt) : Hs := match a.wish with
  | .shw g => g
  | _ => ⟨0, [], []⟩
def ptOk (gs : List Hs) (q : Pt) : Bool := match gs[q.1]? with
  | some g => hsOkB g && (q.2.all fun x => decide (x < g.L)) && decide (q.2.length ≤ 1000)
  | none => false
def ansOk (gs : List Hs) (p : Wd × Bool) : Bool := nestF gs.length p.1 0 && decide (p.1.length ≤ 1000) && (partsF gs.length p.1).all (ptOk gs) && decide (takesB gs p.1 = p.2)
def isAsk (a : ASt) : Bool := match a.wish with
  | .ask _ => true
  | _ => false
def isShw (a : ASt) : Bool := match a.wish with
  | .shw _ => true
  | _ => false
theorem rd_in {td : TE} {σ : L2.St} {H : Hp} {d : Addr} {v : V} {u : Wd} {ans : Ans} (hv : IsW H v u) (hd : H d = some (.dT (kvC ans))) : DGet H d v ((ansOf ans u).map V.bl) := by
  rw [← valV_kvC]
  exact hv.dget hd
section
variable {P : Program} {w : World} {K : PySem.W.Frag} {mg : Str → Option Value} {base : Heap} {CB CA CC : Addr}
def spUseStep (CA CB CC : Addr) : Sp := fun vs H Q _ => ∃ (c : Cd) (n : Nat) (s : CSt) (o : Option Wd), vs = [.ref c.q] ∧ CallAt CA CB CC H c n s ∧ n ≤ 3 ∧ useF n s.ans = some o ∧
  ∀ H', CallAt CA CB CC H' c n (sWish s o) → Kp c.foot H H' → Q (.bl o.isSome) H'
theorem ok_CallAsker_use_step (T : Txt K mg CB CA CC) : GoodM P w K mg base 2 CC "use_step" ["self"] (spUseStep CA CB CC) := by
  refine T.CallAsker_use_step.good sc_CallAsker_use_step (fun vs H Q E h => ?_) (fun f cdv A outer s H vs Q E hr h => ?_)
  · obtain ⟨c, n, s, o, rfl, _⟩ := h
    rfl
  · obtain ⟨c, n, s, o, rfl, h, hn, ho, k⟩ := h
    have hu := hu_of hr
    refine ⟨_, 
      (pss_cons (ps_for PassesOwn.never rfl (pi_range1 (by rfl) T.no_range (pa_cons (pe_fldX (pv 0) rfl) pa_nil)) (pg_name (i := 1) sc_CallAsker_use_step.nd rfl (Or.inl rfl)) 
        (pss_cons (ps_set (i := 2) sc_CallAsker_use_step.nd rfl (Or.inl rfl) (pe_callG (ok_row_with T) (hr.mono (by decide)) rfl (pa_cons (pe_fldX (pv 0) rfl) (pa_cons (pe_fldX (pv 0) rfl) (pa_cons (pv 1) (pa_cons (pe_ix ix_list (pe_fldX (pv 0) rfl) (pv 1) (fun _ _ => rfl)) (pa_cons (pe_ixTC (pe_ix ix_list (pe_fldX (pv 0) rfl) (pv 1) (fun _ _ => rfl))) pa_nil)))))))
        (pss_cons (ps_if (pt_cmp (pc_dnotin hu (pv 2) (pe_fldX (pv 0) rfl))) 
          (pss_cons (ps_fld (pv 0) (pe_tupX (pa_cons pe_str (pa_cons (pv 2) pa_nil))) rfl)
          (pss_one (ps_ret pe_bl))) pss_nil)
        (pss_one (ps_if (pt_not (pt_val (pe_dget hu (pe_fldX (pv 0) rfl) (pv 2) (fun _ _ => rfl)))) 
          pss_never pss_nil)))))
      (pss_one (ps_ret pe_bl))), ?_⟩
    obtain ⟨dx, wv, hq, hw⟩ := id h.ob
    obtain ⟨us, hus, pu⟩ := id h.us
    refine ⟨_, rfl, rd_fld hq T.c_CC T.n_CC_helpers (zip_lookup nm_c_helpers rfl rfl) ⟨n, rfl, by omega, by omega, for_range (lo := 0) (n := n) (fun i σ H' => Same H H' ∧ ((List.range n).take i).find? (useBad n s.ans) = none ∧ ∃ x1 x2, σ = [some (.ref c.q), x1, x2])
      ⟨Same.refl _, rfl, none, none, rfl⟩ ?_ ?_⟩⟩
    · rintro i σ H1 hi ⟨s1, hf, x1, x2, rfl⟩
      have e0 : (0 : Int) + (i : Int) = ((i : Nat) : Int) := Int.zero_add _
      rw [e0]
      have hq1 := s1 _ _ hq
      have hu1 := s1 _ _ hus
      have gj : (List.replicate n ([[], [], []] : List Wd))[i]? = some [[], [], []] := by
        rw [List.getElem?_replicate, if_pos hi]
      obtain ⟨uv, huv, hut⟩ := pair_get pu gj
      have hut1 := hut.mono s1
      have hri : (List.range n)[i]? = some i := by rw [List.getElem?_range hi]
      refine ⟨_, rfl, rd_fld hq1 T.c_CC T.n_CC_plain (zip_lookup nm_c_plain rfl rfl) ⟨_, rfl, rd_fld hq1 T.c_CC T.n_CC_helpers (zip_lookup nm_c_helpers rfl rfl) ⟨_, rfl, _, rfl, rd_fld hq1 T.c_CC T.n_CC_uses (zip_lookup nm_c_uses rfl rfl) ⟨_, rfl, rd_l hu1 huv ⟨_, rfl, rd_fld hq1 T.c_CC T.n_CC_uses (zip_lookup nm_c_uses rfl rfl) ⟨_, rfl, rd_l hu1 huv (rd_t2 (w := []) (i := 1) hut1 rfl fun x hx => ?_)⟩⟩⟩⟩⟩⟩
      refine ⟨n, i, uv, x, [], rfl, hut1, hx, by simp, fun r H2 e2 hr2 => ?_⟩
      have s2 := s1.trans e2
      have hq2 := s2 _ _ hq
      have han := s2 _ _ h.an
      refine ⟨_, rfl, _, rfl, rd_fld hq2 T.c_CC T.n_CC_answers (zip_lookup nm_c_answers rfl rfl) ⟨c.an, _, rfl, rd_in (td := tVar 0) (σ := []) hr2 han, _, rfl, ?_⟩⟩
      cases ha : ansOf s.ans (rowW n i []) with
      | none =>
        have hb : useBad n s.ans i = true := by rw [useBad, ha]; rfl
        rw [useF, find_at hf hri hb] at ho
        simp only [ha, Option.some.injEq] at ho
        subst ho
        refine iteT ⟨_, rfl, (by show 2 ≤ sizeLine; decide), fun t H3 e3 ht => ⟨_, rfl, c.q, CC, dx, _, rfl, e3 _ _ hq2, T.c_CC, T.n_CC_wish, (by show 8 < 1000; decide), ?_⟩⟩
        have s3 := s2.trans e3
        exact k _ ((h.mono s3).setWish (s3 _ _ hq) ⟨t, r, rfl, ht, hr2.mono e3⟩) ((Kp.of s3).upd (.inl rfl) (s3 _ _ hq) (fun xs z => nomatch z))
      | some b =>
        refine iteF ?_
        cases b with
        | false =>
          have hb : useBad n s.ans i = true := by rw [useBad, ha]; rfl
          rw [useF, find_at hf hri hb] at ho
          simp only [ha] at ho
          cases ho
        | true =>
          have hb : useBad n s.ans i = false := by rw [useBad, ha]; rfl
          have hd := rd_in (td := tVar 0) (σ := []) hr2 han
          rw [ha] at hd
          refine ⟨_, rfl, rd_fld hq2 T.c_CC T.n_CC_answers (zip_lookup nm_c_answers rfl rfl) ⟨_, rfl, c.an, _, rfl, hd, _, rfl, iteF ⟨s2, find_step hf hri hb, _, _, rfl⟩⟩⟩
    · rintro σ H1 ⟨s1, hf, x1, x2, rfl⟩
      have hf' : (List.range n).find? (useBad n s.ans) = none := by
        have e : (List.range n).take n = List.range n := List.take_of_length_le (by simp)
        rw [e] at hf
        exact hf
      rw [useF, hf'] at ho
      obtain rfl : none = o := Option.some.inj ho
      exact k H1 (h.mono s1) (.of s1)

def spLocalStep (CA CB CC : Addr) : Sp := fun vs H Q _ => ∃ (c : Cd) (n j : Nat) (s s' : CSt) (a : ASt) (v : V) (u : Wd) (r : Bool), vs = [.ref c.q, nv j, v] ∧ CallAt CA CB CC H c n s ∧ n ≤ 3 ∧ j < n ∧ s.asks[j]? = some a ∧ a.wish = .ask u ∧ IsW H v u ∧ (∀ x ∈ u, x < 1 + n) ∧ u.length ≤ 100 ∧ localF n s j a u = some (r, s') ∧
  ∀ H', CallAt CA CB CC H' c n s' → Kp c.foot H H' → Q (.bl r) H'
theorem ok_CallAsker_local_step (T : Txt K mg CB CA CC) : GoodM P w K mg base 9 CC "local_step" ["self", "j", "local"] (spLocalStep CA CB CC) := by
  refine T.CallAsker_local_step.good sc_CallAsker_local_step (fun vs H Q E h => ?_) (fun f cdv A outer s H vs Q E hr h => ?_)
  · obtain ⟨c, n, j, s, s', a, v, u, r, rfl, _⟩ := h
    rfl
  · obtain ⟨c, n, j, s, s', a, v, u, r, rfl, h, hn, hj, ha, haw, hv, hx, hl, ho, k⟩ := h
    have hu := hu_of hr
    refine ⟨_, 
      (pss_cons (ps_set (i := 3) sc_CallAsker_local_step.nd rfl (Or.inl rfl) (pe_callG (ok_use_row T) (hr.mono (by decide)) rfl (pa_cons (pe_fldX (pv 0) rfl) (pa_cons (pe_fldX (pv 0) rfl) (pa_cons (pv 1) (pa_cons (pe_fldX (pv 0) rfl) (pa_cons (pv 2) pa_nil)))))))
      (pss_cons (ps_if (pt_cmp (pc_dnotin hu (pv 3) (pe_fldX (pv 0) rfl))) 
        (pss_cons (ps_fld (pv 0) (pe_tupX (pa_cons pe_str (pa_cons (pv 3) pa_nil))) rfl)
        (pss_one (ps_ret pe_bl))) pss_nil)
      (pss_cons (ps_expr (pe_methG (ok_Asker_hear T) (hr.mono (by decide)) (pe_ix ix_list (pe_fldX (pv 0) rfl) (pv 1) (fun _ _ => rfl)) (pa_cons (pe_callTy call_int1 (by rfl) T.no_int (by decide +kernel) (pa_cons (pe_dget hu (pe_fldX (pv 0) rfl) (pv 3) (fun _ _ => rfl)) pa_nil)) pa_nil)))
      (pss_one (ps_ret pe_bl))))), ?_⟩
    obtain ⟨dx, wv, hq, hw⟩ := id h.ob
    refine ⟨_, rfl, rd_fld hq T.c_CC T.n_CC_plain (zip_lookup nm_c_plain rfl rfl) ⟨_, rfl, rd_fld hq T.c_CC T.n_CC_helpers (zip_lookup nm_c_helpers rfl rfl) ⟨_, rfl, _, rfl, rd_fld hq T.c_CC T.n_CC_uses (zip_lookup nm_c_uses rfl rfl) ⟨_, rfl, n, j, c.ul, v, u, rfl, h.us, hj, hn, hv, hx, hl, fun x H1 s1 hx1 => ?_⟩⟩⟩⟩
    have hq1 := s1 _ _ hq
    have han := s1 _ _ h.an
    refine ⟨_, rfl, _, rfl, rd_fld hq1 T.c_CC T.n_CC_answers (zip_lookup nm_c_answers rfl rfl) ⟨c.an, _, rfl, rd_in (td := tVar 0) (σ := []) hx1 han, _, rfl, ?_⟩⟩
    cases hans : ansOf s.ans (useRow n j u) with
    | none =>
      rw [localF, hans] at ho
      simp only [Option.some.injEq, Prod.mk.injEq] at ho
      obtain ⟨rfl, rfl⟩ := ho
      refine iteT ⟨_, rfl, (by show 2 ≤ sizeLine; decide), fun t H3 e3 ht => ⟨_, rfl, c.q, CC, dx, _, rfl, e3 _ _ hq1, T.c_CC, T.n_CC_wish, (by show 8 < 1000; decide), ?_⟩⟩
      have s3 := s1.trans e3
      exact k _ ((h.mono s3).setWish (s3 _ _ hq) ⟨t, x, rfl, ht, hx1.mono e3⟩) ((Kp.of s3).upd (.inl rfl) (s3 _ _ hq) (fun xs z => nomatch z))
    | some b =>
      rw [localF, hans] at ho
      simp only at ho
      have hd := rd_in (td := tVar 0) (σ := []) hx1 han
      rw [hans] at hd
      obtain ⟨A', hA⟩ : ∃ A', c.ads[j]? = some A' := ⟨c.ads[j]'(by rw [h.len]; exact hj), List.getElem?_eq_getElem _⟩
      have hal : (c.ads.map fun A => V.ref A.p)[j]? = some (.ref A'.p) := by rw [List.getElem?_map, hA]; rfl
      cases hh : hearF (1 + n) a u (b2n b) with
      | none => rw [hh] at ho; cases ho
      | some a' =>
        rw [hh] at ho
        simp only [Option.some.injEq, Prod.mk.injEq] at ho
        obtain ⟨rfl, rfl⟩ := ho
        have hk := (h.ask j A' a hA ha).mono s1
        obtain ⟨dy, av, hp, _⟩ := id hk.ob
        refine iteF ⟨_, rfl, rd_fld hq1 T.c_CC T.n_CC_askers (zip_lookup nm_c_askers rfl rfl) ⟨_, rfl, rd_l (s1 _ _ h.al) hal ⟨A'.p, dy, _, rfl, hp, zip_lookup_none (by decide +kernel), _, rfl, rd_fld hq1 T.c_CC T.n_CC_answers (zip_lookup nm_c_answers rfl rfl) ⟨_, rfl, c.an, _, rfl, hd, .inr ⟨b, rfl, ?_⟩⟩⟩⟩⟩
        refine ⟨A', 1 + n, b2n b, u, a, a', (by cases b <;> rfl), hk, haw, (by cases b <;> decide), hh, fun H2 h2 k2 => ?_⟩
        exact k H2 ((h.mono s1).step hA ha k2 h2) ((Kp.of s1).trans (Kp.ofAsk (List.mem_of_getElem? hA) k2))

def spShowStep (CA CB CC : Addr) : Sp := fun vs H Q _ => ∃ (c : Cd) (n : Nat) (s : CSt), vs = [.ref c.q] ∧ CallAt CA CB CC H c n s ∧ n ≤ 3 ∧ s.ans.length ≤ 1000 ∧ s.asks.all isShw = true ∧ s.ans.all (ansOk (s.asks.map guessOf)) = true ∧
  ∀ H', CallAt CA CB CC H' c n { s with wish := .shw (s.asks.map guessOf) } → Kp c.foot H H' → Q (.bl true) H'
theorem ok_CallAsker_show_step (T : Txt K mg CB CA CC) : GoodM P w K mg base 6 CC "show_step" ["self"] (spShowStep CA CB CC) := by
  refine T.CallAsker_show_step.good sc_CallAsker_show_step (fun vs H Q E h => ?_) (fun f cdv A outer s H vs Q E hr h => ?_)
  · obtain ⟨c, n, s, rfl, _⟩ := h
    rfl
  · obtain ⟨c, n, s, rfl, h, hn, hz, hsh, hall, k⟩ := h
    have hu := hu_of hr
    refine ⟨_, 
      (pss_cons (ps_set (i := 1) sc_CallAsker_show_step.nd rfl (Or.inl rfl) (pe_tupX (pa_cons (pe_fldX (pv 0) rfl) (pa_cons (pe_callTy call_tupleX (by rfl) T.no_tuple (by decide +kernel) (pa_cons (pe_lc (own := [("asker", 4)]) (g := gName 4) (te := tUn (rIxTC K 1) (tMeth CA "wants" (spAskWants CA CB) [] E0 (tVar 4) tNil)) (by rfl) sc_CallAsker_show_step.nd (pi_list (pe_fldX (pv 0) rfl)) (blkOk_by (own := [("asker", 4)]) (N := ["self", "works", "signs", "taken", "asker"]) (sc := defScope s_CallAsker_show_step) (by decide +kernel)) (fun _ _ _ _ _ => pg_name (i := 4) sc_CallAsker_show_step.nd rfl (Or.inl rfl)) (fun _ _ _ _ _ => pts_nil) (fun _ _ _ _ _ => (pe_ixTC (pe_methG0 (ok_Asker_wants T) (hr.mono (by decide)) (pv 4))))) pa_nil)) pa_nil))))
      (pss_cons (ps_lock (ps_for PassesOwn.never rfl (pi_itemsT (pe_fldX (pv 0) rfl)) (pg_tup rfl (pgs_cons (pg_name (i := 2) sc_CallAsker_show_step.nd rfl (Or.inl rfl)) (pgs_cons (pg_name (i := 3) sc_CallAsker_show_step.nd rfl (Or.inl rfl)) pgs_nil))) 
        (pss_one (ps_if (pt_cmpR op_ne (pe_callG (ok_takes T) (hr.mono (by decide)) rfl (pa_cons (pv 1) (pa_cons (pv 2) pa_nil))) (pv 3) (nomark _)) 
          pss_never pss_nil))))
      (pss_cons (ps_fld (pv 0) (pe_tupX (pa_cons pe_str (pa_cons (pv 1) pa_nil))) rfl)
      (pss_one (ps_ret pe_bl))))), ?_⟩
    obtain ⟨dx, wv, hq, hw⟩ := id h.ob
    have lal : (c.ads.map fun A => V.ref A.p).length = n := by rw [List.length_map, h.len]
    refine ⟨_, rfl, rd_fld hq T.c_CC T.n_CC_plain (zip_lookup nm_c_plain rfl rfl) ⟨_, rfl, rd_fld hq T.c_CC T.n_CC_askers (zip_lookup nm_c_askers rfl rfl) ⟨c.al, rfl, ⟨_, SqL.of h.al⟩, fun D hD => ?_⟩⟩⟩
    refine lc_listX (K := K) (a := c.al) (xs := c.ads.map fun A => V.ref A.p) (fun i H' => Same H H' ∧ ∃ vs, H' D = some (.lst vs) ∧ Paired (IsH H') vs ((s.asks.map guessOf).take i))
      ⟨same_new hD, [], upd_same, .nil⟩ (fun i H' _ q => SqL.of (q.1 _ _ h.al)) ?_ ?_
    · rintro i y H1 hy ⟨s1, vs, hvs, pr⟩
      have il : i < n := by
        have := (List.getElem?_eq_some_iff.mp hy).1
        omega
      obtain ⟨A', hA⟩ : ∃ A', c.ads[i]? = some A' := ⟨c.ads[i]'(by rw [h.len]; exact il), List.getElem?_eq_getElem _⟩
      obtain ⟨a, ha⟩ : ∃ a, s.asks[i]? = some a := ⟨s.asks[i]'(by rw [h.lens]; exact il), List.getElem?_eq_getElem _⟩
      obtain rfl : y = .ref A'.p := by
        rw [List.getElem?_map, hA] at hy
        exact (Option.some.inj hy).symm
      have hk := (h.ask i A' a hA ha).mono s1
      obtain ⟨dy, av, hp, _⟩ := id hk.ob
      have hs := List.all_eq_true.mp hsh a (List.mem_of_getElem? ha)
      obtain ⟨g, hg⟩ : ∃ g, a.wish = .shw g := by
        unfold isShw at hs
        cases e : a.wish with
        | shw g => exact ⟨g, rfl⟩
        | non => rw [e] at hs; cases hs
        | ask u => rw [e] at hs; cases hs
      refine ⟨rfl, _, rfl, A'.p, dy, _, rfl, hp, zip_lookup_none (by decide +kernel), A', 1 + n, a, rfl, hk, fun wv' hwv => ?_⟩
      rw [hg] at hwv
      obtain ⟨t, x, rfl, ht, hx⟩ := hwv
      refine rd_tC (i := 1) ht rfl ⟨vs, hvs, ?_, same_mut s1 hD, vs ++ [x], upd_same, ?_⟩
      · have := Paired.length pr
        rw [this, List.length_take]
        exact Nat.lt_of_le_of_lt (show min i _ ≤ 3 by omega) (by decide)
      · have e : (s.asks.map guessOf).take (i + 1) = (s.asks.map guessOf).take i ++ [g] := by
          rw [List.take_add_one, List.getElem?_map, ha]
          show _ ++ [guessOf a] = _
          rw [guessOf, hg]
        rw [e]
        exact pair_snoc (Paired.mapP pr fun _ _ q => q.tx (tx_upd hvs)) (hx.tx (tx_upd hvs))
    · rintro H1 ⟨s1, vs, hvs, pr⟩
      rw [lal, List.take_of_length_le (by rw [List.length_map, h.lens]; exact Nat.le_refl _)] at pr
      generalize hgs : s.asks.map guessOf = gs at pr hall k
      have lgs : gs.length = n := by rw [← hgs, List.length_map, h.lens]
      refine ⟨D, vs, rfl, SqL.of hvs, fun tt H2 e2 htt => ⟨by show 2 ≤ sizeLine; decide, fun wt H3 e3 hwt => ?_⟩⟩
      have s3 := (s1.trans e2).trans e3
      have hwk : IsWorks H3 (.ref wt) gs := ⟨wt, .ref tt, rfl, hwt, tt, vs, rfl, e3 _ _ htt, Paired.mapP pr fun _ _ q => (q.mono e2).mono e3⟩
      have hq3 := s3 _ _ hq
      have nqa := h.nq.2.1
      refine ⟨c.an, _, s3 _ _ h.an, trivial, fun od => ?_⟩
      have txl : Tx H3 (upd H3 c.an (.frz od (.dT (kvC s.ans)))) := fun b xs e => by
        rw [upd_ne (ne_of e (s3 _ _ h.an) (fun z => nomatch z))]
        exact e
      refine ⟨_, rfl, rd_fld (by rw [upd_ne nqa]; exact hq3) T.c_CC T.n_CC_answers (zip_lookup nm_c_answers rfl rfl) ⟨c.an, od, _, rfl, upd_same, ?_⟩⟩
      refine for_itemsT (fun i σ H' => Same (upd H3 c.an (.frz od (.dT (kvC s.ans)))) H' ∧ ∃ x2 x3, σ = [some (.ref c.q), some (.ref wt), x2, x3, none]) ⟨Same.refl _, none, none, rfl⟩ (fun i σ H' _ q => q.1 _ _ upd_same) ?_ ?_
      · rintro i ky v T2 qa σ H4 hky ⟨s4, x2, x3, rfl⟩ hT2 hqa
        obtain ⟨⟨u, b⟩, hub, e⟩ : ∃ ub : Wd × Bool, s.ans[i]? = some ub ∧ (ky, v) = (keyW ub.1, V.bl ub.2) := by
          unfold kvC at hky
          rw [List.getElem?_map] at hky
          cases hb : s.ans[i]? with
          | none => rw [hb] at hky; cases hky
          | some ub => rw [hb] at hky; exact ⟨ub, rfl, (Option.some.inj hky).symm⟩
        simp only [Prod.mk.injEq] at e
        obtain ⟨rfl, rfl⟩ := e
        have hok := List.all_eq_true.mp hall _ (List.mem_of_getElem? hub)
        unfold ansOk at hok
        simp only [Bool.and_eq_true, List.all_eq_true, decide_eq_true_eq] at hok
        obtain ⟨⟨⟨o1, o2⟩, o3⟩, o4⟩ := hok
        have e5 : Same H4 (upd H4 T2 (.tup [.ref qa, .bl b])) := same_new hT2
        have tx35 : Tx H3 (upd H4 T2 (.tup [.ref qa, .bl b])) := txl.trans (Tx.of (s4.trans e5))
        refine ⟨T2, _, rfl, SqT.of upd_same, rfl, _, _, rfl, _, _, rfl, rfl, ?_⟩
        refine ⟨_, rfl, _, rfl, gs, .ref wt, .ref qa, u, rfl, hwk.tx tx35, ⟨qa, rfl, e5 _ _ (by rw [← keyW_tw]; exact hqa)⟩, o1, o2, fun q hq => ?_, fun H5 s5 => ⟨_, rfl, rfl, _, rfl, ?_⟩⟩
        · have hp := o3 q hq
          unfold ptOk at hp
          cases hg : gs[q.1]? with
          | none => rw [hg] at hp; cases hp
          | some g =>
            rw [hg] at hp
            simp only [Bool.and_eq_true, List.all_eq_true, decide_eq_true_eq] at hp
            exact ⟨g, rfl, hsOk_of hp.1.1, hp.1.2, hp.2⟩
        · rw [o4]
          exact iteNS rfl ⟨(s4.trans e5).trans s5, _, _, rfl⟩
      · rintro σ H4 ⟨s4, x2, x3, rfl⟩
        refine ⟨s4 _ _ upd_same, ?_⟩
        have s5 : Same H3 (upd H4 c.an (.dT (kvC s.ans))) := fun b o e => by
          by_cases n : b = c.an
          · rw [n, upd_same]
            rw [n, s3 _ _ h.an] at e
            exact e
          · rw [upd_ne n]
            exact s4 b o (by rw [upd_ne n]; exact e)
        refine ⟨_, rfl, (by show 2 ≤ sizeLine; decide), fun t H6 e6 ht => ⟨_, rfl, c.q, CC, dx, _, rfl, e6 _ _ (s5 _ _ hq3), T.c_CC, T.n_CC_wish, (by show 8 < 1000; decide), ?_⟩⟩
        have s6 := (s3.trans s5).trans e6
        exact k _ ((h.mono s6).setWish (s6 _ _ hq) ⟨t, .ref wt, rfl, ht, hwk.tx (.of (s5.trans e6))⟩) ((Kp.of s6).upd (.inl rfl) (s6 _ _ hq) (fun xs z => nomatch z))
end
end Gr
namespace Gr
open PySem L2
def notNon (a : ASt) : Bool := decide (a.wish ≠ .non)
def cGuard (n : Nat) (s : CSt) : Bool := decide (n ≤ 3) && decide (s.ans.length ≤ 1000) && s.asks.all notNon
def okLocal (n : Nat) (u : Wd) : Bool := (u.all fun x => decide (x < 1 + n)) && decide (u.length ≤ 100)
def cAskF (n : Nat) (s : CSt) : Option (Bool × CSt) := match s.asks.findIdx? isAsk with
  | some j => match s.asks[j]? with
    | some a => match a.wish with
      | .ask u => if okLocal n u then localF n s j a u else none
      | _ => none
    | none => none
  | none => if s.ans.all (ansOk (s.asks.map guessOf)) then some (true, { s with wish := .shw (s.asks.map guessOf) }) else none
def cStepF (n : Nat) (s : CSt) : Option (Bool × CSt) := if cGuard n s then match useF n s.ans with
    | some (some r) => some (true, { s with wish := .ask r })
    | some none => cAskF n s
    | none => none
  else none
def cSettleF (n : Nat) : Nat → CSt → Option CSt
  | 0, _ => none
  | m + 1, s => match cStepF n s with
    | some (true, s') => some s'
    | some (false, s') => cSettleF n m s'
    | none => none
section
variable {P : Program} {w : World} {K : PySem.W.Frag} {mg : Str → Option Value} {base : Heap} {CB CA CC : Addr}
def spCallStep (CA CB CC : Addr) : Sp := fun vs H Q _ => ∃ (c : Cd) (n : Nat) (s s' : CSt) (r : Bool), vs = [.ref c.q] ∧ CallAt CA CB CC H c n s ∧ cStepF n s = some (r, s') ∧
  ∀ H', CallAt CA CB CC H' c n s' → Kp c.foot H H' → Q (.bl r) H'
theorem ok_CallAsker_one_step (T : Txt K mg CB CA CC) : GoodM P w K mg base 10 CC "one_step" ["self"] (spCallStep CA CB CC) := by
  refine T.CallAsker_one_step.good sc_CallAsker_one_step (fun vs H Q E h => ?_) (fun f cdv A outer s H vs Q E hr h => ?_)
  · obtain ⟨c, n, s, s', r, rfl, _⟩ := h
    rfl
  · obtain ⟨c, n, s, s', r, rfl, h, ho, k⟩ := h
    refine ⟨_, 
      (pss_cons (ps_if (PW.pt (pw_or (pt_val (pe_methG0 (ok_CallAsker_use_step T) (hr.mono (by decide)) (pv 0))) (pw_or1 (pt_val (pe_methG0 (ok_CallAsker_pending_step T) (hr.mono (by decide)) (pv 0)))))) 
        (pss_one (ps_ret pe_bl)) pss_nil)
      (pss_cons (ps_if (pt_cmpR op_gt (pe_callB call_len_seq (by rfl) T.no_len PySem.boot_len (pa_cons (pe_fldX (pv 0) rfl) pa_nil)) pe_int (nomark _)) 
        (pss_one (ps_ret pe_bl)) pss_nil)
      (pss_cons (ps_for PassesOwn.never rfl (pi_range1 (by rfl) T.no_range (pa_cons (pe_fldX (pv 0) rfl) pa_nil)) (pg_name (i := 1) sc_CallAsker_one_step.nd rfl (Or.inl rfl)) 
        (pss_cons (ps_set (i := 2) sc_CallAsker_one_step.nd rfl (Or.inl rfl) (pe_methG0 (ok_Asker_wants T) (hr.mono (by decide)) (pe_ix ix_list (pe_fldX (pv 0) rfl) (pv 1) (fun _ _ => rfl))))
        (pss_cons (ps_if (pt_cmpR op_eq (pe_ixTC (pv 2)) pe_str (nomark _)) 
          (pss_one (ps_ret (pe_methG (ok_CallAsker_local_step T) (hr.mono (by decide)) (pv 0) (pa_cons (pv 1) (pa_cons (pe_ixTC (pv 2)) pa_nil))))) pss_nil)
        (pss_one (ps_if (pt_cmpR op_eq (pe_ixTC (pv 2)) pe_str (nomark _)) 
          pss_never pss_nil)))))
      (pss_one (ps_ret (pe_methG0 (ok_CallAsker_show_step T) (hr.mono (by decide)) (pv 0))))))), ?_⟩
    by_cases hg : cGuard n s = true
    · rw [cStepF, if_pos hg] at ho
      unfold cGuard at hg
      simp only [Bool.and_eq_true, decide_eq_true_eq] at hg
      obtain ⟨⟨hn, hz⟩, hnn⟩ := hg
      obtain ⟨dx, wv, hq, hw⟩ := id h.ob
      cases hu : useF n s.ans with
      | none => rw [hu] at ho; cases ho
      | some o =>
        rw [hu] at ho
        refine ⟨_, rfl, c.q, dx, _, rfl, hq, zip_lookup_none (by decide +kernel), c, n, s, o, rfl, h, hn, hu, fun H1 h1 k1 => ⟨_, rfl, ?_⟩⟩
        cases o with
        | some r1 =>
          simp only [Option.some.injEq, Prod.mk.injEq] at ho
          obtain ⟨rfl, rfl⟩ := ho
          exact iteT (k H1 h1 k1)
        | none =>
          simp only at ho
          have h1 : CallAt CA CB CC H1 c n s := h1
          obtain ⟨dx, wv, hq1, hw1⟩ := id h1.ob
          refine iteF ⟨_, rfl, c.q, dx, _, rfl, hq1, zip_lookup_none (by decide +kernel), c, n, s, rfl, h1, _, rfl, iteF ?_⟩
          refine ⟨_, rfl, rd_fld hq1 T.c_CC T.n_CC_pending (zip_lookup nm_c_pending rfl rfl) ⟨c.pl, _, rfl, .inl (SqL.of h1.pl), _, _, rfl, rfl, _, rfl, iteF ?_⟩⟩
          refine ⟨_, rfl, rd_fld hq1 T.c_CC T.n_CC_helpers (zip_lookup nm_c_helpers rfl rfl) ⟨n, rfl, by omega, by omega, for_range (lo := 0) (n := n) (fun i σ H' => H' = H1 ∧ (s.asks.take i).find? isAsk = none ∧ ∃ x1 x2, σ = [some (.ref c.q), x1, x2])
            ⟨rfl, rfl, none, none, rfl⟩ ?_ ?_⟩⟩
          · rintro i σ H2 hi ⟨rfl, hf, x1, x2, rfl⟩
            have e0 : (0 : Int) + (i : Int) = ((i : Nat) : Int) := Int.zero_add _
            rw [e0]
            obtain ⟨A', hA⟩ : ∃ A', c.ads[i]? = some A' := ⟨c.ads[i]'(by rw [h1.len]; exact hi), List.getElem?_eq_getElem _⟩
            obtain ⟨a, ha⟩ : ∃ a, s.asks[i]? = some a := ⟨s.asks[i]'(by rw [h1.lens]; exact hi), List.getElem?_eq_getElem _⟩
            have hal : (c.ads.map fun A => V.ref A.p)[i]? = some (.ref A'.p) := by rw [List.getElem?_map, hA]; rfl
            have hk := h1.ask i A' a hA ha
            obtain ⟨dy, av, hp, _⟩ := id hk.ob
            have hna := List.all_eq_true.mp hnn a (List.mem_of_getElem? ha)
            refine ⟨_, rfl, rd_fld hq1 T.c_CC T.n_CC_askers (zip_lookup nm_c_askers rfl rfl) ⟨_, rfl, rd_l h1.al hal ⟨A'.p, dy, _, rfl, hp, zip_lookup_none (by decide +kernel), A', 1 + n, a, rfl, hk, fun wv' hwv => ?_⟩⟩⟩
            cases haw : a.wish with
            | non =>
              unfold notNon at hna
              rw [haw] at hna
              cases hna
            | ask u =>
              rw [haw] at hwv
              obtain ⟨t, x, rfl, ht, hx⟩ := hwv
              have hia : isAsk a = true := by rw [isAsk, haw]
              rw [cAskF, findIdx_at hf ha hia] at ho
              simp only [ha, haw] at ho
              by_cases hok : okLocal n u = true
              · rw [if_pos hok] at ho
                unfold okLocal at hok
                simp only [Bool.and_eq_true, List.all_eq_true, decide_eq_true_eq] at hok
                refine ⟨_, rfl, rd_tC (i := 0) ht rfl ⟨rfl, _, rfl, ?_⟩⟩
                rw [decide_eq_true (show V.str "ask" = V.str "ask" from rfl)]
                refine iteT ⟨_, rfl, c.q, dx, _, rfl, hq1, zip_lookup_none (by decide +kernel), _, rfl, _, rfl, rd_tC (i := 1) ht rfl ?_⟩
                exact ⟨c, n, i, s, s', a, x, u, r, rfl, h1, hn, hi, ha, haw, hx, hok.1, hok.2, ho, fun H3 h3 k3 => k H3 h3 (k1.trans k3)⟩
              · rw [if_neg hok] at ho
                cases ho
            | shw g =>
              rw [haw] at hwv
              obtain ⟨t, x, rfl, ht, hx⟩ := hwv
              have hia : isAsk a = false := by rw [isAsk, haw]
              have d1 : decide (V.str "show" = V.str "ask") = false := by decide +kernel
              have d2 : decide (V.str "show" = V.str "spent") = false := by decide +kernel
              refine ⟨_, rfl, rd_tC (i := 0) ht rfl ⟨rfl, _, rfl, ?_⟩⟩
              rw [d1]
              refine iteF ⟨_, rfl, rd_tC (i := 0) ht rfl ⟨rfl, _, rfl, ?_⟩⟩
              rw [d2]
              exact iteF ⟨rfl, find_step hf ha hia, _, _, rfl⟩
          · rintro σ H2 ⟨rfl, hf, x1, x2, rfl⟩
            rw [List.take_of_length_le (by rw [h1.lens]; exact Nat.le_refl _)] at hf
            rw [cAskF, findIdx_none hf] at ho
            simp only at ho
            by_cases hall : s.ans.all (ansOk (s.asks.map guessOf)) = true
            · rw [if_pos hall] at ho
              simp only [Option.some.injEq, Prod.mk.injEq] at ho
              obtain ⟨rfl, rfl⟩ := ho
              refine ⟨_, rfl, c.q, dx, _, rfl, hq1, zip_lookup_none (by decide +kernel), c, n, s, rfl, h1, hn, hz, ?_, hall, fun H3 h3 k3 => k H3 h3 (k1.trans k3)⟩
              rw [List.all_eq_true]
              intro a ha
              have e1 := List.find?_eq_none.mp hf a ha
              have e2 := List.all_eq_true.mp hnn a ha
              unfold isAsk at e1
              unfold notNon at e2
              unfold isShw
              cases e : a.wish with
              | shw g => rfl
              | non => rw [e] at e2; cases e2
              | ask u => rw [e] at e1; simp at e1
            · rw [if_neg hall] at ho
              cases ho
    · rw [cStepF, if_neg hg] at ho
      cases ho

def spCallSettle (CA CB CC : Addr) : Sp := fun vs H Q _ => ∃ (c : Cd) (n m : Nat) (s s' : CSt), vs = [.ref c.q] ∧ CallAt CA CB CC H c n s ∧ cSettleF n m s = some s' ∧
  ∀ H', CallAt CA CB CC H' c n s' → Kp c.foot H H' → Q .non H'
theorem ok_CallAsker_settle (T : Txt K mg CB CA CC) : GoodM P w K mg base 11 CC "settle" ["self"] (spCallSettle CA CB CC) := by
  refine T.CallAsker_settle.good sc_CallAsker_settle (fun vs H Q E h => ?_) (fun f cdv A outer s H vs Q E hr h => ?_)
  · obtain ⟨c, n, m, s, s', rfl, _⟩ := h
    rfl
  · obtain ⟨c, n, m, s, s', rfl, h, ho, k⟩ := h
    refine ⟨_, 
      (pss_one (ps_while PassesOwn.never (pt_not (pt_val (pe_methG0 (ok_CallAsker_one_step T) (hr.mono (by decide)) (pv 0)))) 
        (pss_one ps_pass))), ?_⟩
    refine ⟨fun m σ H' => σ = [some (.ref c.q)] ∧ ∃ s1, CallAt CA CB CC H' c n s1 ∧ Kp c.foot H H' ∧ cSettleF n m s1 = some s', ⟨m, rfl, s, h, Kp.refl H, ho⟩, ?_⟩
    rintro m σ H1 ⟨rfl, s1, h1, k1, hs1⟩
    cases m with
    | zero => cases hs1
    | succ m =>
      obtain ⟨dx, wv, hp, hw⟩ := id h1.ob
      unfold cSettleF at hs1
      cases e : cStepF n s1 with
      | none => rw [e] at hs1; cases hs1
      | some r =>
        obtain ⟨r, s2⟩ := r
        rw [e] at hs1
        refine ⟨_, rfl, c.q, dx, _, rfl, hp, zip_lookup_none (by decide +kernel), c, n, s1, s2, r, rfl, h1, e, fun H2 h2 k2 => ⟨_, rfl, ?_⟩⟩
        cases r with
        | true =>
          obtain rfl : s2 = s' := Option.some.inj hs1
          exact iteF (k H2 h2 (k1.trans k2))
        | false =>
          exact iteT ⟨fun σ' H' => σ' = [some (.ref c.q)] ∧ ∃ s1, CallAt CA CB CC H' c n s1 ∧ Kp c.foot H H' ∧ cSettleF n m s1 = some s', fun σ' H' q => ⟨m, Nat.lt_succ_self m, q⟩, rfl, s2, h2, k1.trans k2, hs1⟩

theorem putC_new (ans : Ans) (u : Wd) (b : Bool) (h : ansOf ans u = none) : putK (kvC ans) (keyW u) (.bl b) = kvC (ans ++ [(u, b)]) := by
  rw [putK_new _ (by rw [valV_kvC, h]; rfl)]
  unfold kvC
  rw [List.map_append]
  rfl
def spCallHear (CA CB CC : Addr) : Sp := fun vs H Q _ => ∃ (c : Cd) (n m : Nat) (s s' : CSt) (u : Wd) (b : Bool), vs = [.ref c.q, .bl b] ∧ CallAt CA CB CC H c n s ∧ s.wish = .ask u ∧ ansOf s.ans u = none ∧ s.ans.length ≤ 1000 ∧ cSettleF n m { s with ans := s.ans ++ [(u, b)] } = some s' ∧
  ∀ H', CallAt CA CB CC H' c n s' → Kp c.foot H H' → Q .non H'
theorem ok_CallAsker_hear (T : Txt K mg CB CA CC) : GoodM P w K mg base 12 CC "hear" ["self", "taken"] (spCallHear CA CB CC) := by
  refine T.CallAsker_hear.good sc_CallAsker_hear (fun vs H Q E h => ?_) (fun f cdv A outer s H vs Q E hr h => ?_)
  · obtain ⟨c, n, m, s, s', u, b, rfl, _⟩ := h
    rfl
  · obtain ⟨c, n, m, s, s', u, b, rfl, h, hwi, hno, hz, ho, k⟩ := h
    have hu := hu_of hr
    refine ⟨_, 
      (pss_cons (ps_if (pt_cmpR op_ne (pe_ixTC (pe_fldX (pv 0) rfl)) pe_str (nomark _)) pss_never pss_nil)
      (pss_cons (ps_dput hu (pe_fldX (pv 0) rfl) (pe_ixTC (pe_fldX (pv 0) rfl)) (pv 1) rfl)
      (pss_one (ps_expr (pe_methG0 (ok_CallAsker_settle T) (hr.mono (by decide)) (pv 0)))))), ?_⟩
    obtain ⟨dx, wv, hq, hw⟩ := id h.ob
    rw [hwi] at hw
    obtain ⟨t, x, rfl, ht, hx⟩ := id hw
    obtain ⟨a, rfl, ha⟩ := id hx
    refine ⟨_, rfl, rd_fld hq T.c_CC T.n_CC_wish (zip_lookup nm_c_wish rfl rfl) (rd_tC (i := 0) ht rfl ⟨rfl, _, rfl, iteNS rfl ?_⟩)⟩
    refine ⟨_, rfl, _, rfl, rd_fld hq T.c_CC T.n_CC_answers (zip_lookup nm_c_answers rfl rfl) ⟨_, rfl, rd_fld hq T.c_CC T.n_CC_wish (zip_lookup nm_c_wish rfl rfl) (rd_tC (i := 1) ht rfl ⟨c.an, _, rfl, DPut.t (k := keyW u) h.an (by rw [keyW_tw]; exact ha) ?_, ?_⟩)⟩⟩
    · unfold kvC
      rw [List.length_map]
      exact Nat.lt_of_le_of_lt hz (by decide)
    · rw [putC_new _ _ _ hno]
      have h1 := h.put (u := u) (b := b)
      obtain ⟨dy, wv1, hq1, _⟩ := id h1.ob
      exact ⟨_, rfl, c.q, dy, _, rfl, hq1, zip_lookup_none (by decide +kernel), c, n, m, _, s', rfl, h1, ho, fun H2 h2 k2 => k H2 h2 (((Kp.refl H).upd (.inr (.inl rfl)) h.an (fun xs z => nomatch z)).trans k2)⟩
end
end Gr
namespace Gr
open PySem L2
theorem lc_rangeX {n : Nat} {g : TG} {te : TE} {vs : List Nat} {σ : L2.St} {H1 : Hp} {D : Addr} {Qd : Hp → Prop} (Pv : Nat → Hp → Prop) (h0 : Pv 0 (upd H1 D (.lst [])))
    (hs : ∀ i H, i < n → Pv i H → g (nv i) (wipe σ vs) H fun σ2 H2 => wipe σ2 vs = wipe σ vs ∧ te σ2 H2 fun y H4 => ∃ acc, H4 D = some (.lst acc) ∧ acc.length < sizeLine ∧ Pv (i + 1) (upd H4 D (.lst (acc ++ [y])))) (hd : ∀ H, Pv n H → Qd H) :
    ∃ W : Nat → Nat → Hp → Prop, (∃ m, W 0 m (upd H1 D (.lst []))) ∧ ∀ i m H, W i m H →
      ((Itr 0 n).stop i H ∧ Qd H) ∨ ((Itr 0 n).go i H ∧ ∃ Nx : Hp → Prop, (∀ H', Nx H' → ∃ m', m' < m ∧ W (i + 1) m' H') ∧ ∀ x H', (Itr 0 n).yld i H x H' → g x (wipe σ vs) H' fun σ2 H2 => wipe σ2 vs = wipe σ vs ∧ tYes σ2 H2 fun b H3 =>
        if b = true then te σ2 H3 fun y H4 => ∃ acc, H4 D = some (.lst acc) ∧ acc.length < sizeLine ∧ Nx (upd H4 D (.lst (acc ++ [y]))) else Nx H3) :=
  lc_range (lo := 0) (n := n) Pv h0 (fun i H hi p => by
    have e0 : (0 : Int) + (i : Int) = ((i : Nat) : Int) := Int.zero_add _
    have h := hs i H hi p
    rw [e0]
    exact h) hd
section
variable {P : Program} {w : World} {K : PySem.W.Frag} {mg : Str → Option Value} {base : Heap} {CB CA CC : Addr}
/-- the askers made so far -/
structure Mde (CA CB : Addr) (Hs H' : Hp) (D : Addr) (n i : Nat) (a0 : ASt) (ads : List Ad) : Prop where
  sm : Same Hs H'
  li : H' D = some (.lst (ads.map fun A => V.ref A.p))
  len : ads.length = i
  ask : ∀ A ∈ ads, AskAt CA CB H' A (1 + n) a0
  new : ∀ A ∈ ads, ∀ x, A.all x → Hs x = none ∧ x ≠ D
  sep : ∀ (i j : Nat) (A B : Ad), ads[i]? = some A → ads[j]? = some B → i ≠ j → ∀ x, A.all x → ¬ B.all x
theorem AskAt.other {CA CB : Addr} {H : Hp} {A : Ad} {L : Nat} {a : ASt} {D : Addr} {xs : List V} {o : HO} (h : AskAt CA CB H A L a) (hD : H D = some (.lst xs)) (n : ∀ x, A.all x → x ≠ D) : AskAt CA CB (upd H D o) A L a :=
  h.kp (M := fun y => y = D) ((Kp.refl H).upd rfl hD (fun xs z => nomatch z)) (n _ (.inl rfl)) (n _ (.inr (.inl rfl))) (n _ (.inr (.inr (.inl rfl)))) (n _ (.inr (.inr (.inr (.inl rfl))))) (n _ (.inr (.inr (.inr (.inr rfl)))))
theorem Mde.more {CA CB : Addr} {Hs H1 H2 : Hp} {D : Addr} {n i : Nat} {a0 : ASt} {ads : List Ad} {A : Ad} (h : Mde CA CB Hs H1 D n i a0 ads) (hD : Hs D = none) (e : Same H1 H2) (hA : AskAt CA CB H2 A (1 + n) a0) (fr : ∀ x, A.all x → H1 x = none) :
    Mde CA CB Hs (upd H2 D (.lst ((ads.map fun A => V.ref A.p) ++ [.ref A.p]))) D n (i + 1) a0 (ads ++ [A]) := by
  have li2 := e _ _ h.li
  have nD : ∀ x, A.all x → x ≠ D := fun x hx z => by
    have := fr x hx
    rw [z, h.li] at this
    cases this
  refine ⟨same_mut (h.sm.trans e) hD, by rw [upd_same, List.map_append]; rfl, by rw [List.length_append, h.len]; rfl, fun B hB => ?_, fun B hB x hx => ?_, fun k j B C hB hC ne x hx hx' => ?_⟩
  · rcases List.mem_append.mp hB with q | q
    · exact ((h.ask B q).mono e).other li2 fun x hx => (h.new B q x hx).2
    · rw [List.mem_singleton.mp q]
      exact hA.other li2 nD
  · rcases List.mem_append.mp hB with q | q
    · exact h.new B q x hx
    · rw [List.mem_singleton.mp q] at hx
      exact ⟨h.sm.free (fr x hx), nD x hx⟩
  · have old : ∀ B ∈ ads, ∀ x, B.all x → ¬ A.all x := fun B hB x h1 h2 => by
      obtain ⟨o, q⟩ := (h.ask B hB).none_p x h1
      rw [fr x h2] at q
      cases q
    rw [List.getElem?_append] at hB hC
    split at hB
    · split at hC
      · exact h.sep k j B C hB hC ne x hx hx'
      · have : C = A := by
          have := List.mem_of_getElem? hC
          simpa using this
        subst this
        exact old B (List.mem_of_getElem? hB) x hx hx'
    · have eB : B = A := by
        have := List.mem_of_getElem? hB
        simpa using this
      split at hC
      · rw [eB] at hx
        exact old C (List.mem_of_getElem? hC) x hx' hx
      · have h1 := (List.getElem?_eq_some_iff.mp hB).1
        have h2 := (List.getElem?_eq_some_iff.mp hC).1
        simp at h1 h2
        omega
def spCallInit (CA CB CC : Addr) : Sp := fun vs H Q _ => ∃ (q dx u0 : Addr) (n k m : Nat) (a0 : ASt) (s' : CSt), vs = [.ref q, nv 1, nv n, nv 2, .ref u0] ∧ H q = some (.ins CC dx []) ∧ IsUses H u0 n ∧ n ≤ 3 ∧ settleF (1 + n) k initS = some a0 ∧ cSettleF n m ⟨[], List.replicate n a0, .non⟩ = some s' ∧
  ∀ c H', c.q = q → CallAt CA CB CC H' c n s' → (∀ x, c.foot x → x ≠ q → H x = none) → (∀ b o, H b = some o → b ≠ q → H' b = some o) → Q .non H'
theorem ok_CallAsker_init (T : Txt K mg CB CA CC) : GoodI P w K mg base 12 "CallAsker" CC ["self", "plain", "helpers", "most", "uses"] (spCallInit CA CB CC) := by
  refine T.CallAsker_init.good sc_CallAsker_init (fun vs H Q E h => ?_) (fun f cdv A outer s H vs Q E hr h => ?_)
  · obtain ⟨q, dx, u0, n, k, m, a0, s', rfl, _⟩ := h
    rfl
  · obtain ⟨q, dx, u0, n, k0, m, a0, s', rfl, hq, hus, hn, hst, hcs, k⟩ := h
    refine ⟨_, 
      (pss_cons (ps_fld (pv 0) (pv 1) rfl)
      (pss_cons (ps_fld (pv 0) (pv 2) rfl)
      (pss_cons (ps_fld (pv 0) (pe_callTy call_list_of (by rfl) T.no_list (by decide +kernel) (pa_cons (pv 4) pa_nil)) rfl)
      (pss_cons (ps_fld (pv 0) pe_dnewT rfl)
      (pss_cons (ps_fld (pv 0) (pe_lc (own := [("j", 5)]) (g := gName 5) (by rfl) sc_CallAsker_init.nd (pi_range1 (by rfl) T.no_range (pa_cons (pv 2) pa_nil)) (blkOk_by (own := [("j", 5)]) (N := ["self", "plain", "helpers", "most", "uses", "j"]) (sc := defScope s_CallAsker_init) (by decide +kernel)) (fun _ _ _ _ _ => pg_name (i := 5) sc_CallAsker_init.nd rfl (Or.inl rfl)) (fun _ _ _ _ _ => pts_nil) (fun _ _ _ _ _ => (pe_makeG (ok_Asker_init T) (hr.mono (by decide)) rfl (pa_cons (pe_op op_add (pv 1) (pv 2)) (pa_cons (pv 3) pa_nil))))) rfl)
      (pss_cons (ps_fld (pv 0) (pe_lst pa_nil) rfl)
      (pss_cons (ps_fld (pv 0) pe_non rfl)
      (pss_cons (ps_fld (pv 0) pe_non rfl)
      (pss_one (ps_expr (pe_methG0 (ok_CallAsker_settle T) (hr.mono (by decide)) (pv 0)))))))))))), ?_⟩
    have e1 : putF "plain" (nv 1) [] = (["plain"] : List Str).zip [nv 1] := rfl
    have e2 : putF "helpers" (nv n) ((["plain"] : List Str).zip [nv 1]) = (["plain", "helpers"] : List Str).zip [nv 1, nv n] := putF_snoc (by decide +kernel) rfl
    refine ⟨_, rfl, _, rfl, q, CC, dx, _, rfl, hq, T.c_CC, T.n_CC_plain, (by show 0 < 1000; decide), ?_⟩
    rw [e1]
    refine ⟨_, rfl, _, rfl, q, CC, dx, _, rfl, upd_same, T.c_CC, T.n_CC_helpers, (by show 1 < 1000; decide), ?_⟩
    rw [e2, upd_upd]
    obtain ⟨us, hu0, pu⟩ := id hus
    have nqu : u0 ≠ q := ne_of hu0 hq (fun z => nomatch z)
    -- uses
    refine ⟨_, rfl, u0, us, rfl, .inl (SqL.of (by rw [upd_ne nqu]; exact hu0)), fun ul hul => ?_⟩
    have nqul : q ≠ ul := fun z => by rw [← z, upd_same] at hul; cases hul
    have hul0 : H ul = none := by rw [upd_ne nqul.symm] at hul; exact hul
    have e3 : putF "uses" (.ref ul) ((["plain", "helpers"] : List Str).zip [nv 1, nv n]) = (["plain", "helpers", "uses"] : List Str).zip [nv 1, nv n, .ref ul] := putF_snoc (by decide +kernel) rfl
    refine ⟨_, rfl, q, CC, dx, _, rfl, (by rw [upd_ne nqul, upd_same]), T.c_CC, T.n_CC_uses, (by show 2 < 1000; decide), ?_⟩
    rw [e3]
    -- answers
    intro an han
    have nqan : q ≠ an := fun z => by rw [← z, upd_same] at han; cases han
    have nulan : ul ≠ an := fun z => by rw [← z, upd_ne nqul.symm, upd_same] at han; cases han
    have han0 : H an = none := by rw [upd_ne nqan.symm, upd_ne nulan.symm, upd_ne nqan.symm] at han; exact han
    have e4 : putF "answers" (.ref an) ((["plain", "helpers", "uses"] : List Str).zip [nv 1, nv n, .ref ul]) = (["plain", "helpers", "uses", "answers"] : List Str).zip [nv 1, nv n, .ref ul, .ref an] := putF_snoc (by decide +kernel) rfl
    refine ⟨_, rfl, q, CC, dx, _, rfl, (by rw [upd_ne nqan, upd_same]), T.c_CC, T.n_CC_answers, (by show 3 < 1000; decide), ?_⟩
    rw [e4]
    generalize hH5 : upd (upd (upd (upd (upd H q (.ins CC dx ((["plain", "helpers"] : List Str).zip [nv 1, nv n]))) ul (.lst us)) q (.ins CC dx ((["plain", "helpers", "uses"] : List Str).zip [nv 1, nv n, .ref ul]))) an (.dT [])) q (.ins CC dx ((["plain", "helpers", "uses", "answers"] : List Str).zip [nv 1, nv n, .ref ul, .ref an])) = H5
    have q5 : H5 q = some (.ins CC dx ((["plain", "helpers", "uses", "answers"] : List Str).zip [nv 1, nv n, .ref ul, .ref an])) := by rw [← hH5, upd_same]
    have k5 : ∀ b o, H b = some o → b ≠ q → H5 b = some o := fun b o e ne => by
      rw [← hH5, upd_ne ne, upd_ne (ne_of_none e han0), upd_ne ne, upd_ne (ne_of_none e hul0), upd_ne ne]
      exact e
    have ul5 : H5 ul = some (.lst us) := by rw [← hH5, upd_ne nqul.symm, upd_ne nulan, upd_ne nqul.symm, upd_same]
    have an5 : H5 an = some (.dT []) := by rw [← hH5, upd_ne nqan.symm, upd_same]
    clear hH5
    have f5 : ∀ x, H5 x = none → H x = none := fun x e => by
      cases e' : H x with
      | none => rfl
      | some o =>
        by_cases ne : x = q
        · rw [ne, q5] at e
          cases e
        · rw [k5 x o e' ne] at e
          cases e
    -- the askers
    refine ⟨_, rfl, n, rfl, by omega, by omega, fun D hD => ?_⟩
    refine lc_rangeX (n := n) (fun i H' => ∃ ads, Mde CA CB H5 H' D n i a0 ads) ⟨[], same_new hD, upd_same, rfl, fun A hA => by simp at hA, fun A hA => by simp at hA, fun i j A B h1 => by simp at h1⟩ ?_ ?_
    · rintro i H6 hi ⟨ads, hm⟩
      refine ⟨rfl, _, rfl, _, rfl, _, _, rfl, rfl, _, rfl, fun x dy hx hdy ne => ?_⟩
      refine ⟨x, dy, 1 + n, k0, a0, rfl, upd_same, hst, fun A H7 hp h7 fb fd fa fe k7 => ⟨rfl, ?_⟩⟩
      have s67 : Same H6 H7 := fun b o e => k7 b o (by rw [upd_ne (ne_of_none e hx), upd_ne (ne_of_none e hdy)]; exact e) (ne_of_none e hx)
      have fr : ∀ y, (upd (upd H6 dy (.own x)) x (.ins CA dy [])) y = none → H6 y = none := fun y e => by
        by_cases n1 : y = x
        · rw [n1]; exact hx
        · by_cases n2 : y = dy
          · rw [n2]; exact hdy
          · rw [upd_ne n1, upd_ne n2] at e
            exact e
      have frA : ∀ y, A.all y → H6 y = none := by
        rintro y (rfl | rfl | rfl | rfl | rfl)
        · rw [hp]; exact hx
        · exact fr _ fb
        · exact fr _ fd
        · exact fr _ fa
        · exact fr _ fe
      refine ⟨_, s67 _ _ hm.li, ?_, ads ++ [A], ?_⟩
      · rw [List.length_map, hm.len]
        exact Nat.lt_of_lt_of_le (show i < 4 by omega) (by decide)
      · have := hm.more hD s67 h7 frA
        rw [hp] at this
        exact this
    · rintro H6 ⟨ads, hm⟩
      have q6 := hm.sm _ _ q5
      have nqD : q ≠ D := ne_of_none q5 hD
      have e5 : putF "askers" (.ref D) ((["plain", "helpers", "uses", "answers"] : List Str).zip [nv 1, nv n, .ref ul, .ref an]) = (["plain", "helpers", "uses", "answers", "askers"] : List Str).zip [nv 1, nv n, .ref ul, .ref an, .ref D] := putF_snoc (by decide +kernel) rfl
      refine ⟨_, rfl, q, CC, dx, _, rfl, q6, T.c_CC, T.n_CC_askers, (by show 4 < 1000; decide), ?_⟩
      rw [e5]
      refine ⟨Nat.zero_le _, fun pl hpl => ?_⟩
      have nqpl : q ≠ pl := fun z => by rw [← z, upd_same] at hpl; cases hpl
      have hpl6 : H6 pl = none := by rw [upd_ne nqpl.symm] at hpl; exact hpl
      have e6 : putF "pending" (.ref pl) ((["plain", "helpers", "uses", "answers", "askers"] : List Str).zip [nv 1, nv n, .ref ul, .ref an, .ref D]) = (["plain", "helpers", "uses", "answers", "askers", "pending"] : List Str).zip [nv 1, nv n, .ref ul, .ref an, .ref D, .ref pl] := putF_snoc (by decide +kernel) rfl
      refine ⟨_, rfl, q, CC, dx, _, rfl, (by rw [upd_ne nqpl, upd_same]), T.c_CC, T.n_CC_pending, (by show 5 < 1000; decide), ?_⟩
      rw [e6]
      have e7 : putF "source" .non ((["plain", "helpers", "uses", "answers", "askers", "pending"] : List Str).zip [nv 1, nv n, .ref ul, .ref an, .ref D, .ref pl]) = (["plain", "helpers", "uses", "answers", "askers", "pending", "source"] : List Str).zip [nv 1, nv n, .ref ul, .ref an, .ref D, .ref pl, .non] := putF_snoc (by decide +kernel) rfl
      refine ⟨_, rfl, q, CC, dx, _, rfl, upd_same, T.c_CC, T.n_CC_source, (by show 6 < 1000; decide), ?_⟩
      rw [e7, upd_upd]
      have e8 : putF "wish" .non ((["plain", "helpers", "uses", "answers", "askers", "pending", "source"] : List Str).zip [nv 1, nv n, .ref ul, .ref an, .ref D, .ref pl, .non]) = callF ⟨q, ul, an, D, pl, ads⟩ n .non := putF_snoc (by decide +kernel) rfl
      refine ⟨_, rfl, q, CC, dx, _, rfl, upd_same, T.c_CC, T.n_CC_wish, (by show 7 < 1000; decide), ?_⟩
      rw [e8, upd_upd]
      generalize hH8 : upd (upd (upd H6 q (.ins CC dx ((["plain", "helpers", "uses", "answers", "askers"] : List Str).zip [nv 1, nv n, .ref ul, .ref an, .ref D]))) pl (.lst [])) q (.ins CC dx (callF ⟨q, ul, an, D, pl, ads⟩ n .non)) = H8
      have q8 : H8 q = some (.ins CC dx (callF ⟨q, ul, an, D, pl, ads⟩ n .non)) := by rw [← hH8, upd_same]
      have k8 : Kp (fun x => x = q) H6 H8 := by
        refine ⟨fun b o e ne => ?_, fun b xs e => ?_⟩
        · rw [← hH8, upd_ne ne, upd_ne (ne_of_none e hpl6), upd_ne ne]
          exact e
        · have nb : b ≠ q := ne_of e q6 (fun z => nomatch z)
          rw [← hH8, upd_ne nb, upd_ne (ne_of_none e hpl6), upd_ne nb]
          exact e
      have pl8 : H8 pl = some (.lst []) := by rw [← hH8, upd_ne nqpl.symm, upd_same]
      clear hH8
      have aq : ∀ A ∈ ads, ∀ x, A.all x → x ≠ q := fun A hA x hx z => by
        have := (hm.new A hA x hx).1
        rw [z, q5] at this
        cases this
      have C8 : CallAt CA CB CC H8 ⟨q, ul, an, D, pl, ads⟩ n ⟨[], List.replicate n a0, .non⟩ := by
        refine ⟨⟨dx, .non, q8, rfl⟩, ⟨us, k8.kp _ _ (hm.sm _ _ ul5) nqul.symm, Paired.mapP pu fun v ws h => h.tx fun b xs e => k8.tx b xs (hm.sm _ _ (k5 b _ e (ne_of e hq (fun z => nomatch z))))⟩, k8.kp _ _ (hm.sm _ _ an5) nqan.symm, k8.kp _ _ hm.li nqD.symm, pl8, hm.len, List.length_replicate, fun j A a h1 h2 => ?_, hm.sep, ?_⟩
        · have hA := List.mem_of_getElem? h1
          obtain rfl : a = a0 := by
            rw [List.getElem?_replicate] at h2
            split at h2
            · exact (Option.some.inj h2).symm
            · cases h2
          have ne := aq A hA
          exact (hm.ask A hA).kp k8 (ne _ (.inl rfl)) (ne _ (.inr (.inl rfl))) (ne _ (.inr (.inr (.inl rfl)))) (ne _ (.inr (.inr (.inr (.inl rfl))))) (ne _ (.inr (.inr (.inr (.inr rfl)))))
        · rintro x hx A hA hall
          obtain ⟨o, ho⟩ := (hm.ask A hA).none_p x hall
          obtain ⟨n1, n2⟩ := hm.new A hA x hall
          rcases hx with e | e | e | e | e
          · exact aq A hA x hall e
          · rw [show x = ul from e, ul5] at n1
            cases n1
          · rw [show x = an from e, an5] at n1
            cases n1
          · exact n2 e
          · rw [show x = pl from e, hpl6] at ho
            cases ho
      refine ⟨_, rfl, q, dx, _, rfl, q8, zip_lookup_none (by decide +kernel), ⟨q, ul, an, D, pl, ads⟩, n, m, _, s', rfl, C8, hcs, fun H9 h9 k9 => ?_⟩
      have fo : ∀ x, (⟨q, ul, an, D, pl, ads⟩ : Cd).foot x → x ≠ q → H x = none := by
        rintro x (e | e | ⟨A, hA, e⟩) ne
        · exact absurd e ne
        · rw [show x = an from e]
          exact han0
        · exact f5 _ (hm.new A hA x (Ad.foot_all e)).1
      refine k _ H9 rfl h9 fo fun b o e ne => k9.kp b o (k8.kp b o (hm.sm _ _ (k5 b o e ne)) ne) fun z => ?_
      rw [fo b z ne] at e
      cases e
end
end Gr
namespace Gr
open PySem L2
theorem cut_map (xs : List Int) (a b : Option Int) : ∃ ms : List Int, cutV (xs.map V.int) a b = ms.map V.int := by
  unfold cutV
  exact ⟨(xs.drop _).take _, by rw [List.map_take, List.map_drop]⟩
theorem tw_cut (w : Wd) {a b : Nat} (h1 : a ≤ b) (h2 : b ≤ w.length) : cutV (tw w) (some (a : Int)) (some (b : Int)) = tw ((w.drop a).take (b - a)) := by
  rw [cut_nat _ h1 (by rw [tw_len]; exact h2), tw_drop]
section
variable {P : Program} {w : World} {K : PySem.W.Frag} {mg : Str → Option Value} {base : Heap} {CB CA CC : Addr}
/-- a hidden house -/
structure Hid (n j : Nat) (h : Hs) : Prop where
  ok : HsOk h
  L : h.L = 1 + n
  m0 : h.marks[0]? = some 1
  z : j = 0 → ∀ l, 1 ≤ l → l < 1 + n → stepH h 0 l = 0
def spHousesBy (K : PySem.W.Frag) : Sp := fun vs H Q _ => ∃ (a : Addr) (ns : List Int), vs = [.ref a] ∧ SqL K H a (ns.map V.int) ∧
  ∀ (n : Nat) (hs : List Hs) (p : Addr) (H' : Hp), 1 ≤ n → n ≤ 3 → Same H H' → IsHl H' p hs → hs.length = n → (∀ (j : Nat) (h : Hs), hs[j]? = some h → Hid n j h) → Q (.ref p) H'
theorem ok_law_houses_by (T : Txt K mg CB CA CC) : Good P w K mg base 2 "_law_houses_by" ["script"] (spHousesBy K) := by
  refine T.law_houses_by.good sc_law_houses_by (fun vs H Q E h => ?_) (fun f cdv A outer s H vs Q E hr h => ?_)
  · obtain ⟨a, ns, rfl, _⟩ := h
    rfl
  · obtain ⟨a, ns, rfl, hs, k⟩ := h
    refine ⟨_, 
      (pss_cons (ps_set (i := 1) sc_law_houses_by.nd rfl (Or.inl rfl) (pe_op op_modN1 (pe_callG (ok_law_cell_at T) (hr.mono (by decide)) rfl (pa_cons (pv 0) (pa_cons pe_int pa_nil))) (pe_op op_pow pe_int pe_int)))
      (pss_cons (ps_set (i := 2) sc_law_houses_by.nd rfl (Or.inl rfl) (pe_op op_addN pe_int (pe_op op_modN1 (pv 1) pe_int)))
      (pss_cons (ps_set (i := 3) sc_law_houses_by.nd rfl (Or.inl rfl) (pe_op op_addN pe_int (pv 2)))
      (pss_cons (ps_setLc (i := 5) (own := [("k", 4)]) (g := gName 4) (te := tC (.int 0)) (by rfl) sc_law_houses_by.nd rfl rfl (sw_true rfl rfl rfl (by decide +kernel)) (pi_range1 (by rfl) T.no_range (pa_cons (pe_op op_mulN (pe_op op_mulN pe_int (pv 2)) (pe_op op_addN (pv 3) pe_int)) pa_nil)) (blkOk_by (own := [("k", 4)]) (N := ["script", "head", "helpers", "letters", "k", "slots", "cell", "houses", "j", "mine", "rooms", "marks", "ways", "room", "row", "letter", "slot"]) (sc := defScope s_law_houses_by) (by decide +kernel)) (fun _ _ _ _ _ => pg_name (i := 4) sc_law_houses_by.nd rfl (Or.inl rfl)) (fun _ _ _ _ _ => pts_nil) (fun _ _ _ _ _ => pe_int))
      (pss_cons (ps_for PassesOwn.never rfl (pi_enum (by rfl) T.no_enumerate (pa_cons (pe_slice sl_list (pv 0) (po_some pe_int) po_none) pa_nil)) (pg_tup rfl (pgs_cons (pg_name (i := 4) sc_law_houses_by.nd rfl (Or.inl rfl)) (pgs_cons (pg_name (i := 6) sc_law_houses_by.nd rfl (Or.inl rfl)) pgs_nil))) 
        (pss_one (ps_asg (pe_op op_modN1 (pe_op op_add (pe_op op_mul (pe_ix ix_list (pv 5) (pe_op op_modN1 (pv 4) (pe_callB call_len_seq (by rfl) T.no_len PySem.boot_len (pa_cons (pv 5) pa_nil))) (fun _ _ => rfl)) pe_int) (pv 6)) pe_int) (pg_sub (pv 5) (pe_op op_modN1 (pv 4) (pe_callB call_len_seq (by rfl) T.no_len PySem.boot_len (pa_cons (pv 5) pa_nil))) set_list))))
      (pss_cons (ps_set (i := 7) sc_law_houses_by.nd rfl (Or.inl rfl) (pe_lst pa_nil))
      (pss_cons (ps_for PassesOwn.never rfl (pi_range1 (by rfl) T.no_range (pa_cons (pv 2) pa_nil)) (pg_name (i := 8) sc_law_houses_by.nd rfl (Or.inl rfl)) 
        (pss_cons (ps_set (i := 9) sc_law_houses_by.nd rfl (Or.inr rfl) (pe_slice sl_list (pv 5) (po_some (pe_op op_mulN (pe_op op_mulN pe_int (pv 8)) (pe_op op_addN (pv 3) pe_int))) (po_some (pe_op op_mulN (pe_op op_mulN pe_int (pe_op op_addN (pv 8) pe_int)) (pe_op op_addN (pv 3) pe_int)))))
        (pss_cons (ps_set (i := 10) sc_law_houses_by.nd rfl (Or.inr rfl) (pe_op op_addN pe_int (pe_op op_modN1 (pe_op op_divN (pv 1) (pe_ix ix_list (pe_lst (pa_cons pe_int (pa_cons pe_int (pa_cons pe_int pa_nil)))) (pv 8) (fun _ _ => rfl))) pe_int)))
        (pss_cons (ps_set (i := 11) sc_law_houses_by.nd rfl (Or.inl rfl) (pe_op op_catX (pe_tupX (pa_cons pe_int pa_nil)) (pe_callTy call_tupK (by rfl) T.no_tuple (by decide +kernel) (pa_cons (pe_lc (own := [("k", 4)]) (g := gName 4) (te := tOp rModN (tOp (rIxL K) (tVar 9) (tVar 4)) (tC (.int 2))) (by rfl) sc_law_houses_by.nd (pi_range2 (by rfl) T.no_range (pa_cons pe_int (pa_cons (pv 10) pa_nil))) (blkOk_by (own := [("k", 4)]) (N := ["script", "head", "helpers", "letters", "k", "slots", "cell", "houses", "j", "mine", "rooms", "marks", "ways", "room", "row", "letter", "slot"]) (sc := defScope s_law_houses_by) (by decide +kernel)) (fun _ _ _ _ _ => pg_name (i := 4) sc_law_houses_by.nd rfl (Or.inl rfl)) (fun _ _ _ _ _ => pts_nil) (fun _ _ _ _ _ => (pe_op op_modN1 (pe_ix ix_list (pv 9) (pv 4) (fun _ _ => rfl)) pe_int))) pa_nil))))
        (pss_cons (ps_set (i := 12) sc_law_houses_by.nd rfl (Or.inl rfl) (pe_lst pa_nil))
        (pss_cons (ps_for PassesOwn.never rfl (pi_range1 (by rfl) T.no_range (pa_cons (pv 10) pa_nil)) (pg_name (i := 13) sc_law_houses_by.nd rfl (Or.inl rfl)) 
          (pss_cons (ps_set (i := 14) sc_law_houses_by.nd rfl (Or.inl rfl) (pe_slice sl_list (pv 9) (po_some (pe_op op_addN pe_int (pe_op op_mulN (pv 13) (pv 3)))) (po_some (pe_op op_addN pe_int (pe_op op_mulN (pe_op op_addN (pv 13) pe_int) (pv 3))))))
          (pss_one (ps_expr (pe_bm PySem.F.plainAttrs_list PySem.F.slot_list_append PySem.F.type_list_append mt_append (pv 12) (pa_cons (pe_lc (own := [("slot", 16)]) (g := gName 16) (te := tOp rModN (tOp rDivN (tVar 16) (tC (.int 2))) (tVar 10)) (by rfl) sc_law_houses_by.nd (pi_list (pv 14)) (blkOk_by (own := [("slot", 16)]) (N := ["script", "head", "helpers", "letters", "k", "slots", "cell", "houses", "j", "mine", "rooms", "marks", "ways", "room", "row", "letter", "slot"]) (sc := defScope s_law_houses_by) (by decide +kernel)) (fun _ _ _ _ _ => pg_name (i := 16) sc_law_houses_by.nd rfl (Or.inl rfl)) (fun _ _ _ _ _ => pts_nil) (fun _ _ _ _ _ => (pe_op op_modN1 (pe_op op_divN (pv 16) pe_int) (pv 10)))) pa_nil))))))
        (pss_cons (ps_if (pt_cmpR op_eq (pv 8) pe_int (nomark _)) 
          (pss_one (ps_for PassesOwn.never rfl (pi_range2 (by rfl) T.no_range (pa_cons pe_int (pa_cons (pv 3) pa_nil))) (pg_name (i := 15) sc_law_houses_by.nd rfl (Or.inl rfl)) 
            (pss_one (ps_asg pe_int (pg_sub (pe_ixLC (pv 12)) (pv 15) set_list))))) pss_nil)
        (pss_one (ps_expr (pe_bm PySem.F.plainAttrs_list PySem.F.slot_list_append PySem.F.type_list_append mt_append (pv 7) (pa_cons (pe_tupX (pa_cons (pv 3) (pa_cons (pv 11) (pa_cons (pe_callTy call_tupK (by rfl) T.no_tuple (by decide +kernel) (pa_cons (pe_lc (own := [("row", 14)]) (g := gName 14) (te := tCB (rTupK K) (tCons (tVar 14) tNil)) (by rfl) sc_law_houses_by.nd (pi_list (pv 12)) (blkOk_by (own := [("row", 14)]) (N := ["script", "head", "helpers", "letters", "k", "slots", "cell", "houses", "j", "mine", "rooms", "marks", "ways", "room", "row", "letter", "slot"]) (sc := defScope s_law_houses_by) (by decide +kernel)) (fun _ _ _ _ _ => pg_name (i := 14) sc_law_houses_by.nd rfl (Or.inl rfl)) (fun _ _ _ _ _ => pts_nil) (fun _ _ _ _ _ => (pe_callTy call_tupK (by rfl) T.no_tuple (by decide +kernel) (pa_cons (pv 14) pa_nil)))) pa_nil)) pa_nil)))) pa_nil)))))))))))
      (pss_one (ps_ret (pv 7)))))))))), ?_⟩
    refine ⟨_, rfl, a, ns, 0, rfl, hs, fun c => ⟨_, _, rfl, rfl, (by unfold CPow; decide), c, 1000000000, rfl, rfl, by decide, fun d hd hcd => ?_⟩⟩
    refine ⟨_, rfl, d, 3, rfl, rfl, by decide, fun m hm _ => ⟨1, m, rfl, rfl, ?_⟩⟩
    generalize hn : 1 + m = n
    have hn1 : 1 ≤ n := by omega
    have hn3 : n ≤ 3 := by omega
    clear hn hm hd hcd
    refine ⟨_, rfl, 1, n, rfl, rfl, ?_⟩
    generalize hM : 2 * n * (1 + n + 1) = M
    have hMp : 0 < M ∧ M ≤ 30 := by
      rw [← hM]
      rcases (show n = 1 ∨ n = 2 ∨ n = 3 by omega) with e | e | e <;> subst e <;> decide
    refine ⟨_, rfl, 2, n, rfl, rfl, by omega, _, rfl, 1 + n, 1, rfl, rfl, 2 * n, 1 + n + 1, rfl, rfl, by omega, _, rfl, by omega, by omega, fun S hS => ?_⟩
    rw [hM]
    refine lc_rangeX (n := M) (fun i H' => Same H H' ∧ H' S = some (.lst (tw (List.replicate i 0)))) ⟨same_new hS, upd_same⟩ ?_ ?_
    · rintro i H1 hi ⟨s1, hS1⟩
      refine ⟨rfl, _, hS1, ?_, same_mut s1 hS, ?_⟩
      · rw [tw_len, List.length_replicate]
        exact Nat.lt_of_lt_of_le (show i < 100 by omega) (by decide)
      · rw [upd_same, List.replicate_succ']
        unfold tw
        rw [List.map_append]
        rfl
    · rintro H1 ⟨s1, hS1⟩
      refine ⟨_, rfl, _, rfl, a, _, rfl, sqL_same hs s1, fun p hp => ?_⟩
      obtain ⟨ms, hms⟩ := cut_map ns (some 1) none
      rw [hms]
      have hSn : S ≠ p := ne_of_none hS1 hp
      have hp0 := s1.free hp
      refine ⟨p, _, rfl, SqL.of upd_same, for_enumX (K := K) (a := p) (xs := ms.map V.int) (fun i σ H' => Same H H' ∧ (∃ ss : Wd, ss.length = M ∧ H' S = some (.lst (tw ss))) ∧ H' p = some (.lst (ms.map V.int)) ∧ ∃ x4 x6 x7 x8 x9 x10 x11 x12 x13 x14 x15 x16, σ = [some (.ref a), some (nv d), some (nv n), some (nv (1 + n)), x4, some (.ref S), x6, x7, x8, x9, x10, x11, x12, x13, x14, x15, x16])
        ⟨s1.trans (same_new hp), ⟨List.replicate M 0, List.length_replicate, same_new hp _ _ hS1⟩, upd_same, _, _, _, _, _, _, _, _, _, _, _, _, rfl⟩ (fun i σ H' _ q => SqL.of q.2.2.1) ?_ ?_⟩
      · rintro i y t σ H2 hy ⟨s2, ⟨ss, lss, hS2⟩, hp2, x4, x6, x7, x8, x9, x10, x11, x12, x13, x14, x15, x16, rfl⟩ ht
        rw [List.getElem?_map] at hy
        obtain ⟨z, hz, rfl⟩ : ∃ z, ms[i]? = some z ∧ y = V.int z := by
          cases e : ms[i]? with
          | none => rw [e] at hy; cases hy
          | some z => rw [e] at hy; exact ⟨z, rfl, (Option.some.inj hy).symm⟩
        have n2 := same_new (o := .tup [nv i, V.int z]) ht
        have hS3 := n2 _ _ hS2
        have lp : 0 < (tw ss).length := by rw [tw_len, lss]; exact hMp.1
        refine ⟨t, _, rfl, SqT.of upd_same, rfl, _, _, rfl, _, _, rfl, rfl, ?_⟩
        refine ⟨_, rfl, _, rfl, _, rfl, S, _, rfl, .inl (SqL.of hS3), (i : Int), (tw ss).length, rfl, rfl, lp, fun q hq _ => ?_⟩
        have hq' : q < ss.length := by rw [tw_len] at hq; exact hq
        refine rd_l hS3 (tw_get (List.getElem?_eq_getElem hq')) ⟨_, _, rfl, rfl, .inr ⟨by decide, by decide⟩, _, rfl, _, _, rfl, rfl, _, 2147483647, rfl, rfl, by decide, fun z2 hz2 _ => ?_⟩
        refine ⟨_, rfl, _, rfl, _, rfl, S, _, rfl, .inl (SqL.of hS3), (i : Int), (tw ss).length, rfl, rfl, lp, fun q2 hq2 _ => ⟨S, _, (q2 : Int), q2, rfl, rfl, hS3, ixn hq2, ?_⟩⟩
        rw [tw_set]
        refine ⟨same_mut (s2.trans n2) hS, ⟨_, by rw [List.length_set, lss], upd_same⟩, by rw [upd_ne hSn.symm]; exact n2 _ _ hp2, _, _, _, _, _, _, _, _, _, _, _, _, rfl⟩
      · rintro σ H2 ⟨s2, ⟨ss, lss, hS2⟩, hp2, x4, x6, x7, x8, x9, x10, x11, x12, x13, x14, x15, x16, rfl⟩
        refine ⟨Nat.zero_le _, fun U hU => ?_⟩
        have hUH := s2.free hU
        have nSU : S ≠ U := ne_of_none hS2 hU
        refine ⟨_, rfl, n, rfl, by omega, by omega, for_range (lo := 0) (n := n) (fun i σ H' => Same H H' ∧ H' S = some (.lst (tw ss)) ∧ (∃ os, IsHl H' U os ∧ os.length = i ∧ ∀ (j : Nat) (o : Hs), os[j]? = some o → Hid n j o) ∧ ∃ x4 x6 x8 x9 x10 x11 x12 x13 x14 x15 x16, σ = [some (.ref a), some (nv d), some (nv n), some (nv (1 + n)), x4, some (.ref S), x6, some (.ref U), x8, x9, x10, x11, x12, x13, x14, x15, x16])
          ⟨s2.trans (same_new hU), same_new hU _ _ hS2, ⟨[], ⟨[], upd_same, .nil⟩, rfl, fun j o h => by simp at h⟩, _, _, _, _, _, _, _, _, _, _, _, rfl⟩ ?_ ?_⟩
        · rintro j σ H3 hj ⟨s3, hS3, ⟨os, ⟨ov, hov, po⟩, lo, ho⟩, x4', x6', x8', x9', x10', x11', x12', x13', x14', x15', x16', rfl⟩
          clear hS2 hp2 hp hms hSn hp0
          have e0 : (0 : Int) + (j : Int) = ((j : Nat) : Int) := Int.zero_add _
          rw [e0]
          have hab : 2 * j * (1 + n + 1) ≤ 2 * (j + 1) * (1 + n + 1) := Nat.mul_le_mul_right _ (by omega)
          have hbM : 2 * (j + 1) * (1 + n + 1) ≤ ss.length := by rw [lss, ← hM]; exact Nat.mul_le_mul_right _ (by omega)
          refine ⟨_, rfl, _, rfl, 2, j, rfl, rfl, by omega, _, rfl, 1 + n, 1, rfl, rfl, 2 * j, 1 + n + 1, rfl, rfl, by omega, _, rfl, _, rfl, j, 1, rfl, rfl, 2, j + 1, rfl, rfl, by omega, _, rfl, 1 + n, 1, rfl, rfl, 2 * (j + 1), 1 + n + 1, rfl, rfl, by omega, _, rfl, S, _, rfl, SqL.of hS3, fun Mi hMi => ?_⟩
          rw [tw_cut ss hab hbM]
          obtain ⟨cl, hcl, lcl⟩ : ∃ cl : Wd, (ss.drop (2 * j * (1 + n + 1))).take (2 * (j + 1) * (1 + n + 1) - 2 * j * (1 + n + 1)) = cl ∧ cl.length = 2 * (1 + n + 1) := by
            refine ⟨_, rfl, ?_⟩
            rw [List.length_take, List.length_drop]
            have e1 : 2 * (j + 1) * (1 + n + 1) = 2 * j * (1 + n + 1) + 2 * (1 + n + 1) := by
              rw [← Nat.add_mul]
              rfl
            omega
          rw [hcl]
          clear hcl hab hbM
          -- rooms
          refine ⟨_, rfl, by show 3 ≤ sizeLine; decide, fun R hR => ⟨_, rfl, ?_⟩⟩
          obtain ⟨dv, hdv, dv0, dv1⟩ : ∃ dv : Nat, ([V.int 3, V.int 6, V.int 12] : List V)[j]? = some (nv dv) ∧ 0 < dv ∧ dv ≤ 1000 := by
            rcases (show j = 0 ∨ j = 1 ∨ j = 2 by omega) with e | e | e <;> subst e
            · exact ⟨3, rfl, by decide, by decide⟩
            · exact ⟨6, rfl, by decide, by decide⟩
            · exact ⟨12, rfl, by decide, by decide⟩
          refine rd_l upd_same hdv ⟨d, dv, rfl, rfl, dv0, dv1, ((d / dv : Nat) : Int), 2, rfl, rfl, by decide, fun m hm _ => ⟨1, m, rfl, rfl, ?_⟩⟩
          have n4 := (same_new (o := .lst (tw cl)) hMi).trans (same_new (o := .lst [V.int 3, V.int 6, V.int 12]) hR)
          have hMi4 := same_new (o := .lst [V.int 3, V.int 6, V.int 12]) hR Mi (.lst (tw cl)) upd_same
          generalize upd (upd H3 Mi (.lst (tw cl))) R (.lst [V.int 3, V.int 6, V.int 12]) = H4 at n4 hMi4 ⊢
          -- marks
          refine ⟨by show 1 ≤ sizeLine; decide, fun t1 H5 e5 ht1 => ⟨_, rfl, _, _, rfl, ⟨by omega, by omega, by omega, by omega⟩, ?_⟩⟩
          have hMi5 := e5 _ _ hMi4
          have n5 := n4.trans e5
          have eM : (((1 + m : Nat) : Int) - 1).toNat = m := by omega
          rw [eM]
          refine fun D hD => lc_range (lo := 1) (n := m) (fun i H' => Same H5 H' ∧ ∃ bs : Wd, H' D = some (.lst (tw bs)) ∧ bs.length = i ∧ ∀ x ∈ bs, x ≤ 1) ⟨same_new hD, [], upd_same, rfl, fun x hx => by simp at hx⟩ ?_ ?_
          · rintro i H6 hi ⟨s6, bs, hbs, lbs, bbs⟩
            have e1 : (1 : Int) + (i : Int) = ((1 + i : Nat) : Int) := by omega
            rw [e1]
            have hi2 : 1 + i < cl.length := by omega
            refine ⟨rfl, _, rfl, _, rfl, rd_l (s6 _ _ hMi5) (tw_get (List.getElem?_eq_getElem hi2)) ⟨_, 2, rfl, rfl, by decide, fun z hz _ => ⟨_, hbs, ?_, same_mut s6 hD, bs ++ [z], ?_, ?_, ?_⟩⟩⟩
            · rw [tw_len, lbs]
              exact Nat.lt_of_lt_of_le (show i < 2 by omega) (by decide)
            · rw [upd_same]
              unfold tw
              rw [List.map_append]
              rfl
            · rw [List.length_append, lbs]
              rfl
            · intro x hx
              rcases List.mem_append.mp hx with q | q
              · exact bbs x q
              · rw [List.mem_singleton.mp q]
                omega
          · rintro H6 ⟨s6, bs, hbs, lbs, bbs⟩
            refine ⟨D, _, rfl, SqL.of hbs, fun q1 H7 e7 hq1 => ?_⟩
            have s57 := s6.trans e7
            have hw1 : IsW H7 (.ref t1) [1] := ⟨t1, rfl, s57 _ _ ht1⟩
            refine rd_cat hw1 ⟨q1, rfl, hq1⟩ (by rw [lbs]; simp; omega) fun mv H8 e8 hmv => ?_
            obtain ⟨mk, hmk, lmk, bmk, fmk⟩ : ∃ mk : Wd, [1] ++ bs = mk ∧ mk.length = 1 + m ∧ (∀ x ∈ mk, x ≤ 1) ∧ mk[0]? = some 1 := by
              refine ⟨_, rfl, by rw [List.length_append, lbs]; rfl, fun x hx => ?_, rfl⟩
              rcases List.mem_append.mp hx with q | q
              · rw [List.mem_singleton.mp q]
                omega
              · exact bbs x q
            rw [hmk] at hmv
            have n8 := (n5.trans s57).trans e8
            have hMi8 := e8 _ _ (s57 _ _ hMi5)
            clear hmk hbs bbs lbs hw1 hq1 ht1 s57 e7 e8 s6 n5 hMi5 e5 n4 hMi4
            -- ways
            refine ⟨Nat.zero_le _, fun W hW => ?_⟩
            have n9 := n8.trans (same_new (o := .lst []) hW)
            refine ⟨_, rfl, 1 + m, rfl, by omega, by omega, for_range (lo := 0) (n := 1 + m) (fun i σ H' => ∃ as ys, WI H8 H' W as ys ∧ ys.length = i ∧ (∀ y ∈ ys, y.length = 1 + n ∧ ∀ x ∈ y, x < 1 + m) ∧ ∃ x13 x14 x15 x16, σ = [some (.ref a), some (nv d), some (nv n), some (nv (1 + n)), x4', some (.ref S), x6', some (.ref U), some (nv j), some (.ref Mi), some (nv (1 + m)), some mv, some (.ref W), x13, x14, x15, x16])
              ⟨[], [], ⟨same_new hW, hW, upd_same, .nil, List.nodup_nil, fun a ha => by simp at ha⟩, rfl, fun y hy => by simp at hy, _, _, _, _, rfl⟩ ?_ ?_⟩
            · rintro r σ H9 hr ⟨as, ys, hwi, lys, bys, x13'', x14'', x15'', x16'', rfl⟩
              have e0 : (0 : Int) + (r : Int) = ((r : Nat) : Int) := Int.zero_add _
              rw [e0]
              have hMi9 := hwi.sm _ _ hMi8
              have hab : 2 + r * (1 + n) ≤ 2 + (r + 1) * (1 + n) := Nat.add_le_add_left (Nat.mul_le_mul_right _ (by omega)) _
              have hbM : 2 + (r + 1) * (1 + n) ≤ cl.length := by
                rw [lcl]
                have : (r + 1) * (1 + n) ≤ 2 * (1 + n) := Nat.mul_le_mul_right _ (by omega)
                omega
              refine ⟨_, rfl, _, rfl, _, rfl, r, 1 + n, rfl, rfl, by omega, 2, r * (1 + n), rfl, rfl, _, rfl, _, rfl, r, 1, rfl, rfl, _, rfl, r + 1, 1 + n, rfl, rfl, by omega, 2, (r + 1) * (1 + n), rfl, rfl, _, rfl, Mi, _, rfl, SqL.of hMi9, fun Rw hRw => ?_⟩
              rw [tw_cut cl hab hbM]
              obtain ⟨rc, hrc, lrc⟩ : ∃ rc : Wd, (cl.drop (2 + r * (1 + n))).take (2 + (r + 1) * (1 + n) - (2 + r * (1 + n))) = rc ∧ rc.length = 1 + n := by
                refine ⟨_, rfl, ?_⟩
                rw [List.length_take, List.length_drop]
                have e1 : (r + 1) * (1 + n) = r * (1 + n) + (1 + n) := by rw [Nat.add_mul, Nat.one_mul]
                omega
              rw [hrc]
              clear hrc hab hbM
              have n10 := same_new (o := .lst (tw rc)) hRw
              have hRw10 : upd H9 Rw (.lst (tw rc)) Rw = some (.lst (tw rc)) := upd_same
              generalize upd H9 Rw (.lst (tw rc)) = H10 at n10 hRw10 ⊢
              have hW10 := n10 _ _ hwi.ww
              refine ⟨_, rfl, .inl ⟨rfl, _, SqL.of hW10⟩, _, rfl, Rw, rfl, ⟨_, SqL.of hRw10⟩, fun D hD => lc_listX (K := K) (a := Rw) (xs := tw rc) (fun i H' => Same H10 H' ∧ ∃ out : Wd, H' D = some (.lst (tw out)) ∧ out.length = i ∧ ∀ x ∈ out, x < 1 + m) ⟨same_new hD, [], upd_same, rfl, fun x hx => by simp at hx⟩ (fun i H' _ q => SqL.of (q.1 _ _ hRw10)) ?_ ?_⟩
              · rintro i y H11 hy ⟨s11, out, hout, lout, bout⟩
                obtain ⟨z, hz, rfl⟩ := tw_inv hy
                have hil := (List.getElem?_eq_some_iff.mp hz).1
                refine ⟨rfl, _, rfl, z, 2, rfl, rfl, by decide, by decide, _, rfl, ((z / 2 : Nat) : Int), 1 + m, rfl, rfl, by omega, fun q hq _ => ⟨_, hout, ?_, same_mut s11 hD, out ++ [q], ?_, ?_, ?_⟩⟩
                · rw [tw_len, lout]
                  exact Nat.lt_of_lt_of_le (show i < 5 by omega) (by decide)
                · rw [upd_same]
                  unfold tw
                  rw [List.map_append]
                  rfl
                · rw [List.length_append, lout]
                  rfl
                · intro x hx
                  rcases List.mem_append.mp hx with q' | q'
                  · exact bout x q'
                  · rw [List.mem_singleton.mp q']
                    exact hq
              · rintro H11 ⟨s11, out, hout, lout, bout⟩
                rw [tw_len, lrc] at lout
                have hla := hwi.len
                refine ⟨W, _, _, rfl, rfl, s11 _ _ hW10, ?_, as ++ [D], ys ++ [out], hwi.push (n10.trans s11) ?_ hout, by rw [List.length_append, lys]; rfl, ?_, _, _, _, _, rfl⟩
                · rw [List.length_map, hla]
                  exact Nat.lt_of_lt_of_le (show ys.length < 5 by omega) (by decide)
                · exact n10.free hD
                · intro y hy
                  rcases List.mem_append.mp hy with q' | q'
                  · exact bys y q'
                  · rw [List.mem_singleton.mp q']
                    exact ⟨lout, bout⟩
            · rintro σ H9 ⟨as, ys, hwi, lys, bys, x13'', x14'', x15'', x16'', rfl⟩
              refine ⟨_, rfl, rfl, _, rfl, ?_⟩
              by_cases c1 : j = 0
              case' pos =>
                rw [decide_eq_true (show nv j = V.int 0 by rw [c1]; rfl)]
                refine iteT ⟨_, rfl, _, _, rfl, ⟨by omega, by omega, by omega, by omega⟩, ?_⟩
                have eN : (((1 + n : Nat) : Int) - 1).toNat = n := by omega
                rw [eN]
                refine for_range (lo := 1) (n := n) (fun i σ H' => ∃ ys, WI H8 H' W as ys ∧ ys.length = 1 + m ∧ (∀ y ∈ ys, y.length = 1 + n ∧ ∀ x ∈ y, x < 1 + m) ∧ (∀ l, 1 ≤ l → l < 1 + i → (ys.getD 0 []).getD l 0 = 0) ∧ ∃ x13 x14 x15 x16, σ = [some (.ref a), some (nv d), some (nv n), some (nv (1 + n)), x4', some (.ref S), x6', some (.ref U), some (nv j), some (.ref Mi), some (nv (1 + m)), some mv, some (.ref W), x13, x14, x15, x16])
                  ⟨ys, hwi, lys, bys, fun l h1 h2 => by omega, _, _, _, _, rfl⟩ ?_ ?_
                · rintro i σ H10 hi ⟨zs, hwz, lzs, bzs, pzs, y13, y14, y15, y16, rfl⟩
                  have e1 : (1 : Int) + (i : Int) = ((1 + i : Nat) : Int) := by omega
                  rw [e1]
                  have h0 : 0 < zs.length := by omega
                  obtain ⟨A, hA, hAr⟩ := hwz.aw.get (List.getElem?_eq_getElem h0)
                  have hz0 := bzs _ (List.getElem_mem h0)
                  refine ⟨_, rfl, rd_lC (i := 0) hwz.ww (show (as.map V.ref)[0]? = some (V.ref A) by rw [List.getElem?_map, hA]; rfl) ⟨_, rfl, A, _, ((1 + i : Nat) : Int), 1 + i, rfl, rfl, hAr, ixn (by rw [tw_len, hz0.1]; omega), ?_⟩⟩
                  have ez : (tw zs[0]).set (1 + i) (V.int 0) = tw (zs[0].set (1 + i) 0) := tw_set _ _ 0
                  rw [ez]
                  refine ⟨_, hwz.set hA, by rw [List.length_set, lzs], set_mem bzs ⟨by rw [List.length_set]; exact hz0.1, set_mem hz0.2 (by omega)⟩, fun l h1 h2 => ?_, _, _, _, _, rfl⟩
                  have p0 := pzs l h1
                  rw [List.getD_eq_getElem?_getD, List.getD_eq_getElem?_getD] at p0 ⊢
                  rw [List.getElem?_set_self h0]
                  rw [List.getElem?_eq_getElem h0] at p0
                  simp only [Option.getD_some] at p0 ⊢
                  rw [List.getElem?_set]
                  by_cases hl : 1 + i = l
                  · rw [if_pos hl]
                    split <;> rfl
                  · rw [if_neg hl]
                    exact p0 (by omega)
                · clear hwi lys bys
                  rintro σ H10 ⟨ys, hwi, lys, bys, pys, x13'', x14'', x15'', x16'', rfl⟩
                  replace pys : j = 0 → ∀ l, 1 ≤ l → l < 1 + n → (ys.getD 0 []).getD l 0 = 0 := fun _ => pys
                  clear c1
                  have sH9 := n8.trans hwi.sm
                  have hU9 := sH9 _ _ hov
                  have la := hwi.len
                  have hW9 := hwi.ww
                  refine ⟨_, rfl, .inl ⟨rfl, _, SqL.of hU9⟩, _, rfl, _, rfl, _, rfl, W, rfl, ⟨_, SqL.of hW9⟩, fun D hD => lc_listX (K := K) (a := W) (xs := as.map V.ref) (fun i H' => Same H10 H' ∧ ∃ vs, H' D = some (.lst vs) ∧ Paired (IsW H') vs (ys.take i)) ⟨same_new hD, [], upd_same, .nil⟩ (fun i H' _ q => SqL.of (q.1 _ _ hW9)) ?_ ?_⟩
                  · rintro i y H11 hy ⟨s11, vs, hvs, pvs⟩
                    rw [List.getElem?_map] at hy
                    obtain ⟨A, hA, rfl⟩ : ∃ A, as[i]? = some A ∧ y = V.ref A := by
                      cases e : as[i]? with
                      | none => rw [e] at hy; cases hy
                      | some A => rw [e] at hy; exact ⟨A, rfl, (Option.some.inj hy).symm⟩
                    have jl := (List.getElem?_eq_some_iff.mp hA).1
                    obtain ⟨A', hA', hAr⟩ := hwi.aw.get (List.getElem?_eq_getElem (show i < ys.length by omega))
                    obtain rfl : A' = A := by rw [hA] at hA'; exact (Option.some.inj hA').symm
                    refine ⟨rfl, _, rfl, A', _, rfl, SqL.of (s11 _ _ hAr), fun q2 H12 e12 hq2 => ⟨_, e12 _ _ hvs, ?_, same_mut (s11.trans e12) hD, ?_⟩⟩
                    · have h1 := Paired.length pvs
                      rw [List.length_take] at h1
                      exact Nat.lt_of_le_of_lt (show vs.length ≤ 2 by omega) (by decide)
                    · refine ⟨vs ++ [.ref q2], upd_same, ?_⟩
                      rw [List.take_add_one, List.getElem?_eq_getElem (show i < ys.length by omega)]
                      have tx := tx_upd (o := .lst (vs ++ [.ref q2])) (e12 _ _ hvs)
                      exact Paired.mapP (pair_snoc (Paired.mapP pvs fun _ _ q => q.mono e12) ⟨q2, rfl, hq2⟩) fun _ _ q => q.tx tx
                  · rintro H11 ⟨s11, vs, hvs, pvs⟩
                    rw [List.length_map, la, List.take_length] at pvs
                    refine ⟨D, vs, rfl, SqL.of hvs, fun q2 H12 e12 hq2 => ⟨by show 3 ≤ sizeLine; decide, fun t H13 e13 ht => ?_⟩⟩
                    have s913 := (s11.trans e12).trans e13
                    have s313 := sH9.trans s913
                    have hU13 := s313 _ _ hov
                    have lov : ov.length = j := by rw [Paired.length po, lo]
                    refine ⟨U, ov, _, rfl, rfl, hU13, Nat.lt_of_lt_of_le (show ov.length < 4 by omega) (by decide), ?_⟩
                    have tx := tx_upd (o := .lst (ov ++ [.ref t])) hU13
                    have hnew : IsH H13 (.ref t) ⟨1 + n, mk, ys⟩ := ⟨t, mv, .ref q2, rfl, ht, hmv.mono (hwi.sm.trans s913), ⟨q2, vs, rfl, e13 _ _ hq2, Paired.mapP pvs fun _ _ q => q.mono (e12.trans e13)⟩⟩
                    refine ⟨same_mut (s3.trans s313) hUH, by rw [upd_ne nSU]; exact s313 _ _ hS3, ⟨os ++ [⟨1 + n, mk, ys⟩], ⟨_, upd_same, Paired.mapP (pair_snoc (Paired.mapP po fun _ _ q => q.mono s313) hnew) fun _ _ q => q.tx tx⟩, by rw [List.length_append, lo]; rfl, fun j' o' h2 => ?_⟩, _, _, _, _, _, _, _, _, _, _, _, rfl⟩
                    by_cases hj' : j' < os.length
                    · rw [List.getElem?_append_left hj'] at h2
                      exact ho j' o' h2
                    · have hl2 := (List.getElem?_eq_some_iff.mp h2).1
                      simp only [List.length_append, List.length_cons, List.length_nil] at hl2
                      obtain rfl : j' = j := by omega
                      rw [List.getElem?_append_right (by omega), lo, Nat.sub_self] at h2
                      obtain rfl : _ = o' := Option.some.inj h2
                      exact ⟨⟨by show ys.length = mk.length; omega, by show 0 < mk.length; omega, by show mk.length ≤ 2; omega, fun y hy => by show y.length = 1 + n ∧ ∀ x ∈ y, x < mk.length; rw [lmk]; exact bys y hy, bmk, by show 1 + n ≤ 4; omega⟩, rfl, fmk, pys⟩
              case' neg =>
                rw [decide_eq_false (show ¬ nv j = V.int 0 from fun z => c1 (by injection z with z; omega))]
                refine iteF ?_
                have pys : j = 0 → ∀ l, 1 ≤ l → l < 1 + n → (ys.getD 0 []).getD l 0 = 0 := fun e => absurd e c1
                have sH9 := n8.trans hwi.sm
                have hU9 := sH9 _ _ hov
                have la := hwi.len
                have hW9 := hwi.ww
                refine ⟨_, rfl, .inl ⟨rfl, _, SqL.of hU9⟩, _, rfl, _, rfl, _, rfl, W, rfl, ⟨_, SqL.of hW9⟩, fun D hD => lc_listX (K := K) (a := W) (xs := as.map V.ref) (fun i H' => Same H9 H' ∧ ∃ vs, H' D = some (.lst vs) ∧ Paired (IsW H') vs (ys.take i)) ⟨same_new hD, [], upd_same, .nil⟩ (fun i H' _ q => SqL.of (q.1 _ _ hW9)) ?_ ?_⟩
                · rintro i y H11 hy ⟨s11, vs, hvs, pvs⟩
                  rw [List.getElem?_map] at hy
                  obtain ⟨A, hA, rfl⟩ : ∃ A, as[i]? = some A ∧ y = V.ref A := by
                    cases e : as[i]? with
                    | none => rw [e] at hy; cases hy
                    | some A => rw [e] at hy; exact ⟨A, rfl, (Option.some.inj hy).symm⟩
                  have jl := (List.getElem?_eq_some_iff.mp hA).1
                  obtain ⟨A', hA', hAr⟩ := hwi.aw.get (List.getElem?_eq_getElem (show i < ys.length by omega))
                  obtain rfl : A' = A := by rw [hA] at hA'; exact (Option.some.inj hA').symm
                  refine ⟨rfl, _, rfl, A', _, rfl, SqL.of (s11 _ _ hAr), fun q2 H12 e12 hq2 => ⟨_, e12 _ _ hvs, ?_, same_mut (s11.trans e12) hD, ?_⟩⟩
                  · have h1 := Paired.length pvs
                    rw [List.length_take] at h1
                    exact Nat.lt_of_le_of_lt (show vs.length ≤ 2 by omega) (by decide)
                  · refine ⟨vs ++ [.ref q2], upd_same, ?_⟩
                    rw [List.take_add_one, List.getElem?_eq_getElem (show i < ys.length by omega)]
                    have tx := tx_upd (o := .lst (vs ++ [.ref q2])) (e12 _ _ hvs)
                    exact Paired.mapP (pair_snoc (Paired.mapP pvs fun _ _ q => q.mono e12) ⟨q2, rfl, hq2⟩) fun _ _ q => q.tx tx
                · rintro H11 ⟨s11, vs, hvs, pvs⟩
                  rw [List.length_map, la, List.take_length] at pvs
                  refine ⟨D, vs, rfl, SqL.of hvs, fun q2 H12 e12 hq2 => ⟨by show 3 ≤ sizeLine; decide, fun t H13 e13 ht => ?_⟩⟩
                  have s913 := (s11.trans e12).trans e13
                  have s313 := sH9.trans s913
                  have hU13 := s313 _ _ hov
                  have lov : ov.length = j := by rw [Paired.length po, lo]
                  refine ⟨U, ov, _, rfl, rfl, hU13, Nat.lt_of_lt_of_le (show ov.length < 4 by omega) (by decide), ?_⟩
                  have tx := tx_upd (o := .lst (ov ++ [.ref t])) hU13
                  have hnew : IsH H13 (.ref t) ⟨1 + n, mk, ys⟩ := ⟨t, mv, .ref q2, rfl, ht, hmv.mono (hwi.sm.trans s913), ⟨q2, vs, rfl, e13 _ _ hq2, Paired.mapP pvs fun _ _ q => q.mono (e12.trans e13)⟩⟩
                  refine ⟨same_mut (s3.trans s313) hUH, by rw [upd_ne nSU]; exact s313 _ _ hS3, ⟨os ++ [⟨1 + n, mk, ys⟩], ⟨_, upd_same, Paired.mapP (pair_snoc (Paired.mapP po fun _ _ q => q.mono s313) hnew) fun _ _ q => q.tx tx⟩, by rw [List.length_append, lo]; rfl, fun j' o' h2 => ?_⟩, _, _, _, _, _, _, _, _, _, _, _, rfl⟩
                  by_cases hj' : j' < os.length
                  · rw [List.getElem?_append_left hj'] at h2
                    exact ho j' o' h2
                  · have hl2 := (List.getElem?_eq_some_iff.mp h2).1
                    simp only [List.length_append, List.length_cons, List.length_nil] at hl2
                    obtain rfl : j' = j := by omega
                    rw [List.getElem?_append_right (by omega), lo, Nat.sub_self] at h2
                    obtain rfl : _ = o' := Option.some.inj h2
                    exact ⟨⟨by show ys.length = mk.length; omega, by show 0 < mk.length; omega, by show mk.length ≤ 2; omega, fun y hy => by show y.length = 1 + n ∧ ∀ x ∈ y, x < mk.length; rw [lmk]; exact bys y hy, bmk, by show 1 + n ≤ 4; omega⟩, rfl, fmk, pys⟩
        · rintro σ H3 ⟨s3, hS3, ⟨os, hov, lo, ho⟩, x4', x6', x8', x9', x10', x11', x12', x13', x14', x15', x16', rfl⟩
          exact ⟨_, rfl, k n os U H3 hn1 hn3 s3 hov lo ho⟩
end
end Gr
namespace Gr
open PySem L2
/-- a set of pairs of rooms, closed under the letters, whose marks are nought alike -/
structure Bisim (h g : Hs) (B : Sk) : Prop where
  st : (0, 0) ∈ B
  few : B.length ≤ 100
  ok : ∀ p ∈ B, p.1 < h.marks.length ∧ p.2 < g.marks.length ∧ (h.marks.getD p.1 0 = 0 ↔ g.marks.getD p.2 0 = 0) ∧ ∀ l, l < h.L → (stepH h p.1 l, stepH g p.2 l) ∈ B
def pw (p : Nat × Nat) : Wd := [p.1, p.2]
theorem pw_inj {p q : Nat × Nat} (h : pw p = pw q) : p = q := by
  obtain ⟨a, b⟩ := p
  obtain ⟨c, d⟩ := q
  simp [pw] at h
  rw [h.1, h.2]
def IsAny (H : Hp) (v : V) (N : Nat) : Prop := ∃ a xs, v = .ref a ∧ H a = some (.tup xs) ∧ xs.length ≤ N
structure FI (H H' : Hp) (S R : Addr) (B ps : Sk) : Prop where
  sm : Same H H'
  fs : H S = none
  fr : H R = none
  row : IsL2 H' R (ps.map pw)
  sd : ∃ kvs : List (List L2.Key × V), H' S = some (.dT kvs) ∧ kvs.map (·.1) = ps.map (fun p => keyW (pw p)) ∧ ∀ kv ∈ kvs, IsAny H' kv.2 ps.length
  nd : ps.Nodup
  sub : ∀ p ∈ ps, p ∈ B
theorem FI.mono {H H' H2 : Hp} {S R : Addr} {B ps : Sk} (h : FI H H' S R B ps) (e : Same H' H2) : FI H H2 S R B ps :=
  ⟨h.sm.trans e, h.fs, h.fr, h.row.mono e, let ⟨kvs, a, b, c⟩ := h.sd; ⟨kvs, e _ _ a, b, fun kv hk => let ⟨x, xs, h1, h2, h3⟩ := c kv hk; ⟨x, xs, h1, e _ _ h2, h3⟩⟩, h.nd, h.sub⟩
theorem nodup_le {α : Type} [DecidableEq α] : ∀ {l m : List α}, l.Nodup → (∀ x ∈ l, x ∈ m) → l.length ≤ m.length
  | [], _, _, _ => Nat.zero_le _
  | x :: l, m, h, s => by
    obtain ⟨h1, h2⟩ := List.nodup_cons.mp h
    have hx := s x (by simp)
    have ih := nodup_le (l := l) (m := m.erase x) h2 fun y hy => by
      have ne : y ≠ x := fun z => h1 (by rw [← z]; exact hy)
      exact (List.mem_erase_of_ne ne).mpr (s y (by simp [hy]))
    have e := List.length_erase_of_mem hx
    have pos : 0 < m.length := List.length_pos_of_mem hx
    rw [List.length_cons]
    omega
theorem FI.le {H H' : Hp} {S R : Addr} {B ps : Sk} (h : FI H H' S R B ps) : ps.length ≤ B.length := nodup_le h.nd h.sub
theorem valV_has {kvs : List (List L2.Key × V)} {k : List L2.Key} (h : k ∈ kvs.map (·.1)) : ∃ v, valV kvs k = some v ∧ (k, v) ∈ kvs := by
  cases e : valV kvs k with
  | none => exact absurd h (valV_not e)
  | some v =>
    refine ⟨v, rfl, ?_⟩
    unfold valV at e
    cases q : kvs.find? (fun kv => decide (kv.1 = k)) with
    | none => rw [q] at e; cases e
    | some p =>
      rw [q] at e
      have h1 := List.mem_of_find?_eq_some q
      have h2 := List.find?_some q
      obtain rfl : p.2 = v := Option.some.inj e
      have h3 : p.1 = k := of_decide_eq_true h2
      rw [← h3]
      exact h1
theorem mem_keys {ps : Sk} {p : Nat × Nat} : keyW (pw p) ∈ ps.map (fun p => keyW (pw p)) ↔ p ∈ ps := by
  constructor
  · intro h
    obtain ⟨q, hq, e⟩ := List.mem_map.mp h
    rw [← pw_inj (keyW_inj e)]
    exact hq
  · intro h
    exact List.mem_map.mpr ⟨p, h, rfl⟩
section
variable {P : Program} {w : World} {K : PySem.W.Frag} {mg : Str → Option Value} {base : Heap} {CB CA CC : Addr}
def spFirstApart : Sp := fun vs H Q _ => ∃ (a b : V) (h g : Hs) (B : Sk), vs = [a, b] ∧ IsH H a h ∧ IsH H b g ∧ HsOk h ∧ HsOk g ∧ h.L = g.L ∧ Bisim h g B ∧ ∀ H', Same H H' → Q .non H'
theorem ok_law_first_apart (T : Txt K mg CB CA CC) : Good P w K mg base 1 "_law_first_apart" ["house", "other"] spFirstApart := by
  refine T.law_first_apart.good sc_law_first_apart (fun vs H Q E h => ?_) (fun f cdv A outer s H vs Q E hr h => ?_)
  · obtain ⟨a, b, h, g, B, rfl, _⟩ := h
    rfl
  · obtain ⟨a, b, h, g, B, rfl, hh, hg, oh, og, hL, hB, k⟩ := h
    have hu := hu_of hr
    refine ⟨_, 
      (pss_cons (ps_set (i := 2) sc_law_first_apart.nd rfl (Or.inl rfl) (pe_disp1T hu (pe_tupX (pa_cons pe_int (pa_cons pe_int pa_nil))) (pe_tupX pa_nil)))
      (pss_cons (ps_set (i := 3) sc_law_first_apart.nd rfl (Or.inl rfl) (pe_lst (pa_cons (pe_tupX (pa_cons pe_int (pa_cons pe_int pa_nil))) pa_nil)))
      (pss_cons (ps_set (i := 4) sc_law_first_apart.nd rfl (Or.inl rfl) pe_int)
      (pss_cons (ps_while PassesOwn.never (pt_cmpR op_lt (pv 4) (pe_callB call_len_seq (by rfl) T.no_len PySem.boot_len (pa_cons (pv 3) pa_nil)) (nomark _)) 
        (pss_cons (ps_set (i := 5) sc_law_first_apart.nd rfl (Or.inl rfl) (pe_ix ix_list (pv 3) (pv 4) (fun _ _ => rfl)))
        (pss_cons (ps_if (pt_cmpR op_ne (pe_cmpR op_eq (pe_ix ix_tup (pe_ixTC (pv 0)) (pe_ixTC (pv 5)) (fun _ _ => rfl)) pe_int (nomark _)) (pe_cmpR op_eq (pe_ix ix_tup (pe_ixTC (pv 1)) (pe_ixTC (pv 5)) (fun _ _ => rfl)) pe_int (nomark _)) (nomark _)) 
          pss_never pss_nil)
        (pss_cons (ps_for PassesOwn.never rfl (pi_range1 (by rfl) T.no_range (pa_cons (pe_ixTC (pv 0)) pa_nil)) (pg_name (i := 6) sc_law_first_apart.nd rfl (Or.inl rfl)) 
          (pss_cons (ps_set (i := 7) sc_law_first_apart.nd rfl (Or.inl rfl) (pe_tupX (pa_cons (pe_ix ix_tup (pe_ix ix_tup (pe_ixTC (pv 0)) (pe_ixTC (pv 5)) (fun _ _ => rfl)) (pv 6) (fun _ _ => rfl)) (pa_cons (pe_ix ix_tup (pe_ix ix_tup (pe_ixTC (pv 1)) (pe_ixTC (pv 5)) (fun _ _ => rfl)) (pv 6) (fun _ _ => rfl)) pa_nil))))
          (pss_one (ps_if (pt_cmp (pc_dnotin hu (pv 7) (pv 2))) 
            (pss_cons (ps_dput hu (pv 2) (pv 7) (pe_op op_catX (pe_dget hu (pv 2) (pv 5) (fun _ _ => rfl)) (pe_tupX (pa_cons (pv 6) pa_nil))) rfl)
            (pss_one (ps_expr (pe_bm PySem.F.plainAttrs_list PySem.F.slot_list_append PySem.F.type_list_append mt_append (pv 3) (pa_cons (pv 7) pa_nil))))) pss_nil))))
        (pss_one (ps_set (i := 4) sc_law_first_apart.nd rfl (Or.inl rfl) (pe_op op_add (pv 4) pe_int)))))))
      (pss_one (ps_ret pe_non)))))), ?_⟩
    intro S hS
    refine ⟨by show 2 ≤ sizeLine; decide, fun t1 H1 e1 ht1 => ⟨Nat.zero_le _, fun t2 H2 e2 ht2 => ?_⟩⟩
    have hS1 : H2 S = some (.dT []) := e2 _ _ (e1 _ _ upd_same)
    have s2 : Same H H2 := (same_new hS).trans (e1.trans e2)
    refine ⟨hS1, keyW (pw (0, 0)), t1, rfl, by rw [keyW_tw]; exact e2 _ _ ht1, ?_⟩
    have s3 : Same H (upd H2 S (.dT [(keyW (pw (0, 0)), .ref t2)])) := same_mut s2 hS
    refine ⟨by show 2 ≤ sizeLine; decide, fun t3 H3 e3 ht3 => ⟨by show 1 ≤ sizeLine; decide, fun R hR => ?_⟩⟩
    have s4 := s3.trans e3
    have hR0 : H R = none := s4.free hR
    have hSR : S ≠ R := fun z => by
      have := e3 _ _ upd_same
      rw [z, hR] at this
      cases this
    have nt2 : t2 ≠ S := ne_of ht2 hS1 (fun z => nomatch z)
    have F0 : FI H (upd H3 R (.lst [.ref t3])) S R B [(0, 0)] :=
      ⟨same_mut s4 hR0, hS, hR0, ⟨_, upd_same, .cons ⟨t3, rfl, same_new hR _ _ ht3⟩ .nil⟩,
        ⟨_, same_new hR _ _ (e3 _ _ upd_same), rfl, fun kv hk => by
          rw [List.mem_singleton.mp hk]
          exact ⟨t2, [], rfl, same_new hR _ _ (e3 _ _ (by rw [upd_ne nt2]; exact ht2)), Nat.zero_le _⟩⟩,
        List.nodup_cons.mpr ⟨by simp, List.nodup_nil⟩, fun p hp => by rw [List.mem_singleton.mp hp]; exact hB.st⟩
    refine ⟨fun m σ H' => ∃ (ps : Sk) (at_ : Nat) (x5 x6 x7 : Option V), FI H H' S R B ps ∧ at_ ≤ ps.length ∧ m = B.length - at_ ∧ σ = [some a, some b, some (.ref S), some (.ref R), some (nv at_), x5, x6, x7],
      ⟨B.length - 0, [(0, 0)], 0, none, none, none, F0, Nat.zero_le _, rfl, rfl⟩, ?_⟩
    rintro m σ H4 ⟨ps, i, x5, x6, x7, F, hi, rfl, rfl⟩
    obtain ⟨pvs, hpv, ppv⟩ := id F.row
    have lpv : pvs.length = ps.length := by
      rw [Paired.length ppv, List.length_map]
    refine ⟨_, rfl, _, rfl, R, _, rfl, .inl (SqL.of hpv), _, _, rfl, rfl, _, rfl, ?_⟩
    have lB := F.le
    by_cases hlt : i < ps.length
    · rw [decide_eq_true (show (i : Int) < (pvs.length : Int) by omega)]
      refine iteT ⟨fun σ' H' => ∃ (ps' : Sk) (x5 x6 x7 : Option V), FI H H' S R B ps' ∧ i + 1 ≤ ps'.length ∧ σ' = [some a, some b, some (.ref S), some (.ref R), some (nv (i + 1)), x5, x6, x7],
        fun σ' H' ⟨ps', y5, y6, y7, F', hi', e⟩ => ⟨B.length - (i + 1), by omega, ps', i + 1, y5, y6, y7, F', hi', rfl, e⟩, ?_⟩
      obtain ⟨p, hp⟩ : ∃ p, ps[i]? = some p := ⟨ps[i], List.getElem?_eq_getElem hlt⟩
      have hpB := F.sub p (List.mem_of_getElem? hp)
      obtain ⟨b1, b2, b3, b4⟩ := hB.ok p hpB
      have hpm : (ps.map pw)[i]? = some (pw p) := by rw [List.getElem?_map, hp]; rfl
      obtain ⟨pv', hpv', hpw⟩ := pair_get ppv hpm
      have hh4 := hh.mono F.sm
      have hg4 := hg.mono F.sm
      refine ⟨_, rfl, _, rfl, rd_l hpv hpv' ?_⟩
      refine ⟨_, rfl, rd_h1 hh4 fun mv hmv => ⟨_, rfl, rd_wC (i := 0) hpw rfl (rd_w hmv (oh.markGet b1) ⟨rfl, _, rfl, rd_h1 hg4 fun nw hnw => ⟨_, rfl, rd_wC (i := 1) hpw rfl (rd_w hnw (og.markGet b2) ⟨rfl, rfl, _, rfl, ?_⟩)⟩⟩)⟩⟩
      have em : decide (V.int ((h.marks.getD p.1 0 : Nat) : Int) = V.int 0) = decide (V.int ((g.marks.getD p.2 0 : Nat) : Int) = V.int 0) := by
        rw [deI, deI, Bool.eq_iff_iff]
        simp only [decide_eq_true_eq]
        omega
      rw [em]
      refine iteNS rfl ?_
      have hLs : h.L ≤ 4 := oh.few
      refine ⟨_, rfl, rd_h0 hh4 ⟨_, rfl, by omega, by omega, for_range (lo := 0) (n := h.L) (fun j σ' H' => ∃ (ps' : Sk) (y6 y7 : Option V), FI H H' S R B ps' ∧ ps'[i]? = some p ∧ IsW H' pv' (pw p) ∧ σ' = [some a, some b, some (.ref S), some (.ref R), some (nv i), some pv', y6, y7])
        ⟨ps, _, _, F, hp, hpw, rfl⟩ ?_ ?_⟩⟩
      · rintro j σ' H5 hj ⟨ps', y6, y7, F5, hp5, hpw5, rfl⟩
        have e0 : (0 : Int) + (j : Int) = ((j : Nat) : Int) := Int.zero_add _
        rw [e0]
        have hh5 := hh.mono F5.sm
        have hg5 := hg.mono F5.sm
        obtain ⟨yr, hyr, hyl, _⟩ := oh.step b1 hj
        obtain ⟨zr, hzr, hzl, _⟩ := og.step (l := j) b2 (by omega)
        refine ⟨_, rfl, rd_h2 hh5 fun yv hyv => ⟨_, rfl, rd_wC (i := 0) hpw5 rfl (rd_t2 hyv hyr fun rv hrv => ⟨_, rfl, rd_w hrv hyl ⟨_, rfl, rd_h2 hg5 fun zv hzv => ⟨_, rfl, rd_wC (i := 1) hpw5 rfl (rd_t2 hzv hzr fun qv hqv => ⟨_, rfl, rd_w hqv hzl ⟨by show 2 ≤ sizeLine; decide, fun t H6 e6 ht => ?_⟩⟩)⟩⟩⟩)⟩⟩
        have F6 := F5.mono e6
        obtain ⟨kvs, hkv, hks, hva⟩ := id F6.sd
        have hkey : IsW H6 (.ref t) (pw (stepH h p.1 j, stepH g p.2 j)) := ⟨t, rfl, ht⟩
        refine ⟨_, rfl, _, rfl, S, _, rfl, hkey.dget hkv, _, rfl, ?_⟩
        by_cases hmem : (stepH h p.1 j, stepH g p.2 j) ∈ ps'
        · obtain ⟨v0, hv0, _⟩ := valV_has (kvs := kvs) (k := keyW (pw (stepH h p.1 j, stepH g p.2 j))) (by rw [hks]; exact mem_keys.mpr hmem)
          rw [hv0]
          exact iteF ⟨ps', _, _, F6, hp5, hpw5.mono e6, rfl⟩
        · have hno : valV kvs (keyW (pw (stepH h p.1 j, stepH g p.2 j))) = none := by
            cases e : valV kvs (keyW (pw (stepH h p.1 j, stepH g p.2 j))) with
            | none => rfl
            | some v0 =>
              have := valV_in e
              rw [hks] at this
              exact absurd (mem_keys.mp this) hmem
          rw [hno]
          have hpm5 : p ∈ ps' := List.mem_of_getElem? hp5
          obtain ⟨v0, hv0, hv0m⟩ := valV_has (kvs := kvs) (k := keyW (pw p)) (by rw [hks]; exact mem_keys.mpr hpm5)
          obtain ⟨va, vxs, rfl, hvx, hvl⟩ := hva _ hv0m
          have hd := (hpw5.mono e6).dget hkv
          rw [hv0] at hd
          have lB6 := F6.le
          have fewB := hB.few
          refine iteT ⟨_, rfl, _, rfl, S, _, rfl, hd, _, rfl, (by show 1 ≤ sizeLine; decide), fun t7 H7 e7 ht7 => ?_⟩
          refine ⟨va, t7, vxs, [nv j], rfl, rfl, e7 _ _ hvx, ht7, ?_, fun t8 H8 e8 ht8 => ?_⟩
          · simp only [List.length_cons, List.length_nil]
            exact Nat.le_trans (show vxs.length + 1 ≤ 1000 by omega) (by decide)
          have F8 := (F6.mono e7).mono e8
          have hkv8 := e8 _ _ (e7 _ _ hkv)
          have lk : kvs.length = ps'.length := by
            have := congrArg List.length hks
            simpa using this
          refine ⟨_, rfl, _, rfl, S, _, rfl, DPut.t (k := keyW (pw (stepH h p.1 j, stepH g p.2 j))) hkv8 (by rw [keyW_tw]; exact e8 _ _ (e7 _ _ ht)) ?_, ?_⟩
          · rw [lk]
            exact Nat.lt_of_le_of_lt (show ps'.length ≤ 100 by omega) (by decide)
          rw [putK_new _ hno]
          obtain ⟨qvs, hqv, pqv⟩ := id F8.row
          have nRS : R ≠ S := ne_of hqv hkv8 (fun z => nomatch z)
          have lq : qvs.length = ps'.length := by rw [Paired.length pqv, List.length_map]
          refine ⟨_, rfl, .inl ⟨rfl, _, SqL.of (by rw [upd_ne nRS]; exact hqv)⟩, _, rfl, R, qvs, _, rfl, rfl, (by rw [upd_ne nRS]; exact hqv), ?_, ?_⟩
          · rw [lq]
            exact Nat.lt_of_le_of_lt (show ps'.length ≤ 100 by omega) (by decide)
          · have tx1 : Tx H8 (upd H8 S (.dT (kvs ++ [(keyW (pw (stepH h p.1 j, stepH g p.2 j)), V.ref t8)]))) := fun c ys ec => by
              rw [upd_ne (ne_of ec hkv8 (fun z => nomatch z))]
              exact ec
            have hR8 : (upd H8 S (.dT (kvs ++ [(keyW (pw (stepH h p.1 j, stepH g p.2 j)), V.ref t8)]))) R = some (.lst qvs) := by rw [upd_ne nRS]; exact hqv
            have tx2 := tx1.trans (tx_upd (o := .lst (qvs ++ [.ref t])) hR8)
            have F9 : FI H (upd (upd H8 S (.dT (kvs ++ [(keyW (pw (stepH h p.1 j, stepH g p.2 j)), V.ref t8)]))) R (.lst (qvs ++ [.ref t]))) S R B (ps' ++ [(stepH h p.1 j, stepH g p.2 j)]) := by
              refine ⟨same_mut (same_mut F8.sm F8.fs) F8.fr, F8.fs, F8.fr, ?_, ⟨kvs ++ [(keyW (pw (stepH h p.1 j, stepH g p.2 j)), V.ref t8)], by rw [upd_ne nRS.symm, upd_same], by rw [List.map_append, List.map_append, hks]; rfl, fun kv hk => ?_⟩, ?_, fun x hx => ?_⟩
              · rw [List.map_append]
                exact IsL2.app hR8 (Paired.mapP pqv fun _ _ q => q.tx tx1) ((hkey.mono (e7.trans e8)).tx tx1)
              · rw [List.length_append]
                rcases List.mem_append.mp hk with q | q
                · obtain ⟨c, ys, h1, h2, h3⟩ := hva kv q
                  exact ⟨c, ys, h1, tx2 _ _ (e8 _ _ (e7 _ _ h2)), Nat.le_trans h3 (Nat.le_add_right _ _)⟩
                · rw [List.mem_singleton.mp q]
                  refine ⟨t8, _, rfl, tx2 _ _ ht8, ?_⟩
                  rw [List.length_append]
                  exact Nat.add_le_add_right hvl 1
              · exact nd_snoc F8.nd hmem
              · rcases List.mem_append.mp hx with q | q
                · exact F8.sub x q
                · rw [List.mem_singleton.mp q]
                  exact b4 j hj
            refine ⟨ps' ++ [(stepH h p.1 j, stepH g p.2 j)], _, _, F9, ?_, (hpw5.mono ((e6.trans e7).trans e8)).tx tx2, rfl⟩
            rw [List.getElem?_append_left (List.getElem?_eq_some_iff.mp hp5).1]
            exact hp5
      · rintro σ' H5 ⟨ps', y6, y7, F5, hp5, hpw5, rfl⟩
        have l5 := (List.getElem?_eq_some_iff.mp hp5).1
        exact ⟨_, rfl, _, _, rfl, rfl, ps', _, _, _, F5, l5, rfl⟩
    · rw [decide_eq_false (show ¬ (i : Int) < (pvs.length : Int) by omega)]
      exact iteF (k H4 F.sm)

/-- no objection -/
def spObjection : Sp := fun vs H Q _ => ∃ (n : Nat) (hl : Addr) (hs gs : List Hs) (gv : V), vs = [.ref hl, gv] ∧ IsHl H hl hs ∧ HsN n hs ∧ HsN n gs ∧ n ≤ 3 ∧ (∃ x hv, gv = .ref x ∧ H x = some (.tup hv) ∧ Paired (IsH H) hv gs) ∧ (∀ (j : Nat) (h g : Hs), hs[j]? = some h → gs[j]? = some g → ∃ B, Bisim h g B) ∧ ∀ H', Same H H' → Q .non H'
theorem ok_law_objection (T : Txt K mg CB CA CC) : Good P w K mg base 2 "_law_objection" ["houses", "shown"] spObjection := by
  refine T.law_objection.good sc_law_objection (fun vs H Q E h => ?_) (fun f cdv A outer s H vs Q E hr h => ?_)
  · obtain ⟨n, hl, hs, gs, gv, rfl, _⟩ := h
    rfl
  · obtain ⟨n, hl, hs, gs, gv, rfl, hH, hN, gN, hn, ⟨x, hv, rfl, hx, pg⟩, hB, k⟩ := h
    refine ⟨_, 
      (pss_cons (ps_for PassesOwn.never rfl (pi_range1 (by rfl) T.no_range (pa_cons (pe_callB call_len_seq (by rfl) T.no_len PySem.boot_len (pa_cons (pv 0) pa_nil)) pa_nil)) (pg_name (i := 2) sc_law_objection.nd rfl (Or.inl rfl)) 
        (pss_cons (ps_set (i := 3) sc_law_objection.nd rfl (Or.inl rfl) (pe_callG (ok_law_first_apart T) (hr.mono (by decide)) rfl (pa_cons (pe_ix ix_list (pv 0) (pv 2) (fun _ _ => rfl)) (pa_cons (pe_ix ix_tup (pv 1) (pv 2) (fun _ _ => rfl)) pa_nil))))
        (pss_one (ps_if (pt_cmpR op_notN (pv 3) pe_non (nomark _)) 
          pss_never pss_nil))))
      (pss_one (ps_ret pe_non))), ?_⟩
    obtain ⟨hvs, hhv, ph⟩ := id hH
    have lh : hvs.length = n := by rw [Paired.length ph, hN.len]
    refine ⟨_, rfl, hl, _, rfl, .inl (SqL.of hhv), _, rfl, by omega, by omega, for_range (lo := 0) (n := hvs.length) (fun i σ H' => Same H H' ∧ ∃ x2 x3 x4 x5, σ = [some (.ref hl), some (.ref x), x2, x3, x4, x5])
      ⟨Same.refl _, _, _, _, _, rfl⟩ ?_ ?_⟩
    · rintro i σ H1 hi ⟨s1, x2, x3, x4, x5, rfl⟩
      have e0 : (0 : Int) + (i : Int) = ((i : Nat) : Int) := Int.zero_add _
      rw [e0]
      obtain ⟨h, hj⟩ : ∃ h, hs[i]? = some h := ⟨hs[i]'(by rw [hN.len]; omega), List.getElem?_eq_getElem _⟩
      obtain ⟨g, gj⟩ : ∃ g, gs[i]? = some g := ⟨gs[i]'(by rw [gN.len]; omega), List.getElem?_eq_getElem _⟩
      obtain ⟨hv1, hh1, hh2⟩ := pair_get ph hj
      obtain ⟨gv1, hg1, hg2⟩ := pair_get pg gj
      obtain ⟨B, hB1⟩ := hB i h g hj gj
      obtain ⟨o1, l1⟩ := hN.ok h (List.mem_of_getElem? hj)
      obtain ⟨o2, l2⟩ := gN.ok g (List.mem_of_getElem? gj)
      refine ⟨_, rfl, _, rfl, rd_l (s1 _ _ hhv) hh1 ⟨_, rfl, _, rfl, rd_t (s1 _ _ hx) hg1 ⟨hv1, gv1, h, g, B, rfl, hh2.mono s1, hg2.mono s1, o1, o2, by omega, hB1, fun H2 s2 => ?_⟩⟩⟩
      exact ⟨_, rfl, rfl, _, rfl, iteF ⟨s1.trans s2, _, _, _, _, rfl⟩⟩
    · rintro σ H1 ⟨s1, x2, x3, x4, x5, rfl⟩
      exact k H1 s1
end
end Gr
namespace Gr
open PySem L2
/-- the asker led by hidden houses, in so many turns -/
inductive Led (n : Nat) (hs : List Hs) : Nat → CSt → CSt → Prop
  | ask {t : Nat} {s s1 s' : CSt} {r : Wd} : s.wish = .ask r → ansOf s.ans r = none → nestF n r 0 = true → r.length ≤ 1000 → s.ans.length ≤ 1000 → (∃ m, cSettleF n m { s with ans := s.ans ++ [(r, lawTakes hs r)] } = some s1) → Led n hs t s1 s' → Led n hs (t + 1) s s'
  | shw {t : Nat} {s s' : CSt} {gs : List Hs} : s.wish = .shw gs → HsN n gs → (∀ (j : Nat) (h g : Hs), hs[j]? = some h → gs[j]? = some g → ∃ B, Bisim h g B) → Led n hs t { s with wish := .done gs } s' → Led n hs (t + 1) s s'
  | done {s : CSt} {gs : List Hs} : s.wish = .done gs → Led n hs 1 s s
theorem Led.pos {n : Nat} {hs : List Hs} {t : Nat} {s s' : CSt} (h : Led n hs t s s') : 0 < t := by
  cases h <;> omega
theorem IsHl.kp {M : Addr → Prop} {H H' : Hp} {a : Addr} {hs : List Hs} (h : IsHl H a hs) (k : Kp M H H') (n : ¬ M a) : IsHl H' a hs := by
  obtain ⟨vs, h1, h2⟩ := h
  exact ⟨vs, k.kp _ _ h1 n, Paired.mapP h2 fun _ _ q => q.tx k.tx⟩
section
variable {P : Program} {w : World} {K : PySem.W.Frag} {mg : Str → Option Value} {base : Heap} {CB CA CC : Addr}
def spLed (CA CB CC : Addr) : Sp := fun vs H Q _ => ∃ (c : Cd) (n t : Nat) (hl : Addr) (hs : List Hs) (s s' : CSt), vs = [.ref c.q, .ref hl] ∧ CallAt CA CB CC H c n s ∧ IsHl H hl hs ∧ ¬ c.foot hl ∧ HsN n hs ∧ 0 < n ∧ n ≤ 3 ∧ Led n hs t s s' ∧ t ≤ 5000 ∧
  ∀ v H', CallAt CA CB CC H' c n s' → Kp c.foot H H' → IsCW H' v s'.wish → Q v H'
theorem ok_law_led (T : Txt K mg CB CA CC) : Good P w K mg base 13 "_law_led" ["asker", "houses"] (spLed CA CB CC) := by
  refine T.law_led.good sc_law_led (fun vs H Q E h => ?_) (fun f cdv A outer s H vs Q E hr h => ?_)
  · obtain ⟨c, n, t, hl, hs, s, s', rfl, _⟩ := h
    rfl
  · obtain ⟨c, n, t, hl, hs, s, s', rfl, h, hH, hf, hN, hn0, hn, hled, ht, k⟩ := h
    refine ⟨_, 
      (pss_cons (ps_for PassesOwn.never rfl (pi_range1 (by rfl) T.no_range (pa_cons pe_int pa_nil)) (pg_name (i := 2) sc_law_led.nd rfl (Or.inl rfl)) 
        (pss_cons (ps_set (i := 3) sc_law_led.nd rfl (Or.inl rfl) (pe_methG0 (ok_CallAsker_wants T) (hr.mono (by decide)) (pv 0)))
        (pss_one (ps_if (pt_cmpR op_eq (pe_ixTC (pv 3)) pe_str (nomark _)) 
          (pss_one (ps_expr (pe_methG (ok_CallAsker_hear T) (hr.mono (by decide)) (pv 0) (pa_cons (pe_callG (ok_law_takes T) (hr.mono (by decide)) rfl (pa_cons (pv 1) (pa_cons (pe_ixTC (pv 3)) pa_nil))) pa_nil)))) 
          (pss_one (ps_if (pt_cmpR op_eq (pe_ixTC (pv 3)) pe_str (nomark _)) 
            (pss_cons (ps_set (i := 4) sc_law_led.nd rfl (Or.inl rfl) (pe_callG (ok_law_objection T) (hr.mono (by decide)) rfl (pa_cons (pv 1) (pa_cons (pe_ixTC (pe_ixTC (pv 3))) pa_nil))))
            (pss_one (ps_if (pt_cmpR op_isN (pv 4) pe_non (nomark _)) 
              (pss_one (ps_expr (pe_methG0 (ok_CallAsker_agree T) (hr.mono (by decide)) (pv 0)))) 
              pss_never))) 
            (pss_one (ps_ret (pv 3)))))))))
      (pss_one (ps_ret (pe_tupX (pa_cons pe_str (pa_cons (pe_tupX pa_nil) pa_nil)))))), ?_⟩
    have d1 : decide (V.str "show" = V.str "ask") = false := by decide +kernel
    have d2 : decide (V.str "done" = V.str "ask") = false := by decide +kernel
    have d3 : decide (V.str "done" = V.str "show") = false := by decide +kernel
    refine ⟨_, rfl, by decide, by decide, for_range (lo := 0) (n := 5000) (fun i σ H' => Kp c.foot H H' ∧ (∃ s1 t1, CallAt CA CB CC H' c n s1 ∧ Led n hs t1 s1 s' ∧ i + t1 ≤ 5000) ∧ ∃ x2 x3 x4, σ = [some (.ref c.q), some (.ref hl), x2, x3, x4])
      ⟨Kp.refl H, ⟨s, t, h, hled, by omega⟩, none, none, none, rfl⟩ ?_ ?_⟩
    · rintro i σ H1 hi ⟨k1, ⟨s1, t1, h1, hl1, ht1⟩, x2, x3, x4, rfl⟩
      obtain ⟨dx, wv, hq, hw⟩ := id h1.ob
      have hH1 := hH.kp k1 hf
      refine ⟨_, rfl, c.q, dx, _, rfl, hq, zip_lookup_none (by decide +kernel), c, n, s1, rfl, h1, fun v hv => ?_⟩
      cases hl1 with
      | @ask t2 _ s2 _ r e1 e2 e3 e4 e5 e6 e7 =>
        rw [e1] at hv
        obtain ⟨t, x, rfl, ht, hx⟩ := hv
        obtain ⟨m, e6⟩ := e6
        refine ⟨_, rfl, rd_tC (i := 0) ht rfl ⟨rfl, _, rfl, ?_⟩⟩
        rw [decide_eq_true (show V.str "ask" = V.str "ask" from rfl)]
        refine iteT ⟨_, rfl, c.q, dx, _, rfl, hq, zip_lookup_none (by decide +kernel), _, rfl, _, rfl, rd_tC (i := 1) ht rfl ⟨n, hl, hs, x, r, rfl, hH1, hN, hn0, hx, e3, e4, fun H2 s12 => ?_⟩⟩
        refine ⟨c, n, m, s1, s2, r, _, rfl, h1.mono s12, e1, e2, e5, e6, fun H3 h3 k3 => ?_⟩
        exact ⟨(k1.trans (.of s12)).trans k3, ⟨s2, t2, h3, e7, by omega⟩, _, _, _, rfl⟩
      | @shw t2 _ _ gs e1 e2 e3 e4 =>
        rw [e1] at hv
        obtain ⟨t, x, rfl, ht, hx⟩ := hv
        obtain ⟨t3, x3, rfl, ht3, hx3⟩ := id hx
        refine ⟨_, rfl, rd_tC (i := 0) ht rfl ⟨rfl, _, rfl, ?_⟩⟩
        rw [d1]
        refine iteF ⟨_, rfl, rd_tC (i := 0) ht rfl ⟨rfl, _, rfl, ?_⟩⟩
        rw [decide_eq_true (show V.str "show" = V.str "show" from rfl)]
        refine iteT ⟨_, rfl, _, rfl, rd_tC (i := 1) ht rfl (rd_tC (i := 1) ht3 rfl ⟨n, hl, hs, gs, x3, rfl, hH1, hN, e2, hn, hx3, e3, fun H2 s12 => ?_⟩)⟩
        refine ⟨_, rfl, rfl, _, rfl, iteT ?_⟩
        have h2 := h1.mono s12
        obtain ⟨dy, wv2, hq2, hw2⟩ := id h2.ob
        refine ⟨_, rfl, c.q, dy, _, rfl, hq2, zip_lookup_none (by decide +kernel), c, n, s1, gs, rfl, h2, e1, fun H3 h3 k3 => ?_⟩
        exact ⟨(k1.trans (.of s12)).trans k3, ⟨_, t2, h3, e4, by omega⟩, _, _, _, rfl⟩
      | @done _ gs e1 =>
        have hv0 := hv
        rw [e1] at hv
        obtain ⟨t, x, rfl, ht, hx⟩ := hv
        refine ⟨_, rfl, rd_tC (i := 0) ht rfl ⟨rfl, _, rfl, ?_⟩⟩
        rw [d2]
        refine iteF ⟨_, rfl, rd_tC (i := 0) ht rfl ⟨rfl, _, rfl, ?_⟩⟩
        rw [d3]
        exact iteF ⟨_, rfl, k _ H1 h1 k1 hv0⟩
    · rintro σ H1 ⟨k1, ⟨s1, t1, h1, hl1, ht1⟩, _⟩
      have := hl1.pos
      omega
end
end Gr
namespace Gr
open PySem L2
/-- what the plain law gives of the hidden houses -/
structure Facts (n : Nat) (hs : List Hs) : Prop where
  ex : ∃ (k m t : Nat) (a0 : ASt) (s0 s' : CSt) (gs : List Hs), settleF (1 + n) k initS = some a0 ∧ cSettleF n m ⟨[], List.replicate n a0, .non⟩ = some s0 ∧ Led n hs t s0 s' ∧ t ≤ 5000 ∧ s'.wish = .done gs ∧ HsN n gs ∧ s'.ans.length ≤ 1000 ∧
    (∀ p ∈ s'.ans, nestF n p.1 0 = true ∧ p.1.length ≤ 1000 ∧ lawTakes hs p.1 = p.2) ∧
    ∀ os : List Hs, os.length = n → (∀ (j : Nat) (g o : Hs), gs[j]? = some g → os[j]? = some o → Like g o) → (∀ p ∈ s'.ans, lawTakes os p.1 = p.2) → ∀ (j : Nat) (o g : Hs), os[j]? = some o → gs[j]? = some g → ∃ B, Bisim o g B
theorem sqL_keep {K : PySem.W.Frag} {H H' : Hp} {a : Addr} {xs : List V} (h : SqL K H a xs) (e : ∀ o, H a = some o → H' a = some o) : SqL K H' a xs :=
  h.elim (fun h => .inl (h.elim (fun h => .inl (e _ h)) fun ⟨o, h⟩ => .inr ⟨o, e _ h⟩)) fun h => .inr h
section
variable {P : Program} {w : World} {K : PySem.W.Frag} {mg : Str → Option Value} {base : Heap} {CB CA CC : Addr}
def spLaw (K : PySem.W.Frag) : Sp := fun vs H Q _ => ∃ (a : Addr) (ns : List Int), vs = [.ref a] ∧ SqL K H a (ns.map V.int) ∧ ∀ H', Q (.bl true) H'
theorem law_len : ∀ (vs : List V) (H : Hp) (Q : VK) (E : XK), spLaw K vs H Q E → vs.length = (["script"] : List Str).length := fun vs H Q E h => by
  obtain ⟨a, ns, rfl, _⟩ := h
  rfl
theorem law_body (T : Txt K mg CB CA CC) (facts : ∀ n hs, 1 ≤ n → n ≤ 3 → hs.length = n → (∀ (j : Nat) (h : Hs), hs[j]? = some h → Hid n j h) → Facts n hs) : Body P w K mg base "law" s_law ["script", "houses", "asker", "end", "others", "fits", "row", "taken", "j", "house"] 13 (spLaw K) := by
  intro f cdv A outer s H vs Q E hr h
  · obtain ⟨a, ns, rfl, hsc, k⟩ := h
    refine ⟨_, 
      (pss_cons (ps_set (i := 1) sc_law.nd rfl (Or.inl rfl) (pe_callG (ok_law_houses_by T) (hr.mono (by decide)) rfl (pa_cons (pv 0) pa_nil)))
      (pss_cons (ps_set (i := 2) sc_law.nd rfl (Or.inl rfl) (pe_makeG (ok_CallAsker_init T) (hr.mono (by decide)) rfl (pa_cons pe_int (pa_cons (pe_callB call_len_seq (by rfl) T.no_len PySem.boot_len (pa_cons (pv 1) pa_nil)) (pa_cons pe_int (pa_cons (pe_lc (own := [("house", 9)]) (g := gName 9) (te := tTupX (tCons (tTupX tNil) (tCons (tTupX tNil) (tCons (tTupX tNil) tNil)))) (by rfl) sc_law.nd (pi_list (pv 1)) (blkOk_by (own := [("house", 9)]) (N := ["script", "houses", "asker", "end", "others", "fits", "row", "taken", "j", "house"]) (sc := defScope s_law) (by decide +kernel)) (fun _ _ _ _ _ => pg_name (i := 9) sc_law.nd rfl (Or.inl rfl)) (fun _ _ _ _ _ => pts_nil) (fun _ _ _ _ _ => (pe_tupX (pa_cons (pe_tupX pa_nil) (pa_cons (pe_tupX pa_nil) (pa_cons (pe_tupX pa_nil) pa_nil)))))) pa_nil))))))
      (pss_cons (ps_set (i := 3) sc_law.nd rfl (Or.inl rfl) (pe_callG (ok_law_led T) (hr.mono (by decide)) rfl (pa_cons (pv 2) (pa_cons (pv 1) pa_nil))))
      (pss_cons (ps_if (pt_cmpR op_ne (pe_ixTC (pv 3)) pe_str (nomark _)) 
        pss_never pss_nil)
      (pss_cons (ps_set (i := 4) sc_law.nd rfl (Or.inl rfl) (pe_callG (ok_law_others T) (hr.mono (by decide)) rfl (pa_cons (pe_ixTC (pe_ixTC (pv 3))) (pa_cons (pv 0) pa_nil))))
      (pss_cons (ps_set (i := 5) sc_law.nd rfl (Or.inl rfl) pe_bl)
      (pss_cons (ps_for PassesOwn.never rfl (pi_list (pe_methG0 (ok_CallAsker_heard T) (hr.mono (by decide)) (pv 2))) (pg_tup rfl (pgs_cons (pg_name (i := 6) sc_law.nd rfl (Or.inl rfl)) (pgs_cons (pg_name (i := 7) sc_law.nd rfl (Or.inl rfl)) pgs_nil))) 
        (pss_cons (ps_if (pt_cmpR op_ne (pe_callG (ok_law_takes T) (hr.mono (by decide)) rfl (pa_cons (pv 1) (pa_cons (pv 6) pa_nil))) (pv 7) (nomark _)) 
          pss_never pss_nil)
        (pss_one (ps_if (pt_cmpR op_ne (pe_callG (ok_law_takes T) (hr.mono (by decide)) rfl (pa_cons (pv 4) (pa_cons (pv 6) pa_nil))) (pv 7) (nomark _)) 
          (pss_one (ps_set (i := 5) sc_law.nd rfl (Or.inl rfl) pe_bl)) pss_nil))))
      (pss_cons (ps_if (pt_not (pt_val (pv 5))) 
        (pss_one (ps_ret pe_bl)) pss_nil)
      (pss_cons (ps_for PassesOwn.never rfl (pi_range1 (by rfl) T.no_range (pa_cons (pe_callB call_len_seq (by rfl) T.no_len PySem.boot_len (pa_cons (pv 1) pa_nil)) pa_nil)) (pg_name (i := 8) sc_law.nd rfl (Or.inl rfl)) 
        (pss_one (ps_if (pt_cmpR op_notN (pe_callG (ok_law_first_apart T) (hr.mono (by decide)) rfl (pa_cons (pe_ix ix_list (pv 4) (pv 8) (fun _ _ => rfl)) (pa_cons (pe_ix ix_tup (pe_ixTC (pe_ixTC (pv 3))) (pv 8) (fun _ _ => rfl)) pa_nil))) pe_non (nomark _)) 
          pss_never pss_nil)))
      (pss_one (ps_ret pe_bl))))))))))), ?_⟩
    refine ⟨_, rfl, a, ns, rfl, hsc, fun n hs hl H1 hn1 hn3 s1 hH lh hid => ?_⟩
    obtain ⟨k0, m, t, a0, s0, s', gs, f1, f2, f3, f4, f5, gN, f6, f7, f8⟩ := (facts n hs hn1 hn3 lh hid).ex
    have hN : HsN n hs := ⟨lh, fun h hm => by
      obtain ⟨j, hj, e⟩ := List.getElem_of_mem hm
      have := hid j h (by rw [List.getElem?_eq_getElem hj, e])
      exact ⟨this.ok, this.L⟩⟩
    obtain ⟨hv, hhv, ph⟩ := id hH
    have lhv : hv.length = n := by rw [Paired.length ph, lh]
    refine ⟨_, rfl, hl, _, rfl, .inl (SqL.of hhv), _, rfl, hl, rfl, ⟨_, SqL.of hhv⟩, fun D hD => lc_listX (K := K) (a := hl) (xs := hv) (fun i H' => Same H1 H' ∧ ∃ vs, H' D = some (.lst vs) ∧ Paired (IsT2 H') vs (List.replicate i [[], [], []])) ⟨same_new hD, [], upd_same, .nil⟩ (fun i H' _ q => SqL.of (q.1 _ _ hhv)) ?_ ?_⟩
    · rintro i x H2 hx ⟨s2, vs, hvs, pvs⟩
      have il := (List.getElem?_eq_some_iff.mp hx).1
      refine ⟨rfl, Nat.zero_le _, fun t1 Ha ea ha => ⟨Nat.zero_le _, fun t2 Hb eb hb => ⟨Nat.zero_le _, fun t3 Hc ec hc => ⟨by show 3 ≤ sizeLine; decide, fun t4 Hd ed hd => ?_⟩⟩⟩⟩
      have sd := ((ea.trans eb).trans ec).trans ed
      refine ⟨vs, sd _ _ hvs, ?_, same_mut (s2.trans sd) hD, vs ++ [.ref t4], upd_same, ?_⟩
      · rw [Paired.length pvs, List.length_replicate]
        exact Nat.lt_of_lt_of_le (show i < 4 by omega) (by decide)
      · rw [List.replicate_succ']
        have tx := tx_upd (o := .lst (vs ++ [.ref t4])) (sd _ _ hvs)
        refine Paired.mapP (pair_snoc (Paired.mapP pvs fun _ _ q => q.mono sd) ⟨t4, _, rfl, hd, .cons ⟨t1, rfl, ?_⟩ (.cons ⟨t2, rfl, ?_⟩ (.cons ⟨t3, rfl, ?_⟩ .nil))⟩) fun _ _ q => q.tx tx
        · exact (eb.trans (ec.trans ed)) _ _ ha
        · exact (ec.trans ed) _ _ hb
        · exact ed _ _ hc
    · rintro H2 ⟨s2, vs, hvs, pvs⟩
      rw [lhv] at pvs
      refine fun q dy hq hdy ne => ?_
      have fr : ∀ y, (upd (upd H2 dy (.own q)) q (.ins CC dy [])) y = none → H2 y = none := fun y e => by
        by_cases n1 : y = q
        · rw [n1]; exact hq
        · by_cases n2 : y = dy
          · rw [n2]; exact hdy
          · rw [upd_ne n1, upd_ne n2] at e
            exact e
      have s22 : Same H2 (upd (upd H2 dy (.own q)) q (.ins CC dy [])) := (same_new hdy).trans (same_new (by rw [upd_ne ne.symm]; exact hq))
      have hus : IsUses (upd (upd H2 dy (.own q)) q (.ins CC dy [])) D n := ⟨vs, s22 _ _ hvs, Paired.mapP pvs fun _ _ q => q.mono s22⟩
      refine ⟨q, dy, D, n, k0, m, a0, s0, (by rw [lhv]; rfl), upd_same, hus, hn3, f1, f2, fun c H3 hc h3 fc kc => ⟨rfl, ?_⟩⟩
      have s23 : Same H2 H3 := fun b o e => kc b o (s22 b o e) (ne_of_none e hq)
      have nf : ∀ b o, H2 b = some o → ¬ c.foot b := fun b o e hf => by
        by_cases z : b = q
        · rw [z, hq] at e; cases e
        · rw [fr b (fc b hf z)] at e
          cases e
      have hH3 := (hH.mono s2).mono s23
      refine ⟨_, rfl, _, rfl, c, n, t, hl, hs, s0, s', by rw [hc]; rfl, h3, hH3, nf hl _ (s2 _ _ hhv), hN, hn1, hn3, f3, f4, fun v H4 h4 k4 hv4 => ?_⟩
      rw [f5] at hv4
      obtain ⟨t1, x1, rfl, ht1, t2, x2, rfl, ht2, x3, gv, rfl, hx3, pg⟩ := id hv4
      have hH4 := hH3.kp k4 (nf hl _ (s2 _ _ hhv))
      have hsc2 := sqL_same hsc (s1.trans s2)
      have hsc4 : SqL K H4 a (ns.map V.int) := sqL_keep hsc2 fun o e => k4.kp _ _ (s23 _ _ e) (nf a o e)
      refine ⟨_, rfl, rd_tC (i := 0) ht1 rfl ⟨rfl, _, rfl, iteNS rfl ?_⟩⟩
      refine ⟨_, rfl, rd_tC (i := 1) ht1 rfl (rd_tC (i := 1) ht2 rfl ⟨_, rfl, n, x3, a, gv, gs, ns, rfl, hx3, pg, gN, hn3, hsc4, fun os po H5 s45 hos lo like => ?_⟩)⟩
      have h5 := h4.mono s45
      obtain ⟨dx, wv, hq5, hw5⟩ := id h5.ob
      rw [hc] at hq5
      refine ⟨_, rfl, q, dx, _, rfl, hq5, zip_lookup_none (by decide +kernel), c, n, s', by rw [hc]; rfl, h5, by omega, fun p5 H6 hp5 s56 hpr => ?_⟩
      obtain ⟨pvs, hpvs, ppv⟩ := id hpr
      have s46 := s45.trans s56
      have hos6 := hos.mono s56
      have hH6 := hH4.mono s46
      have oN : HsN n os := ⟨by rw [lo, gN.len], fun o hm => by
        obtain ⟨j, hj, e⟩ := List.getElem_of_mem hm
        have hjg : j < gs.length := by omega
        have := like j gs[j] o (List.getElem?_eq_getElem hjg) (by rw [List.getElem?_eq_getElem hj, e])
        exact ⟨this.ok, by rw [this.L]; exact (gN.ok _ (List.getElem_mem hjg)).2⟩⟩
      refine ⟨p5, rfl, ⟨_, SqL.of hpvs⟩, for_list (K := K) (a := p5) (xs := pvs) (fun i σ H' => Same H6 H' ∧ ∃ (fb : Bool) (x6 x7 x8 x9 : Option V), (fb = true → ∀ p ∈ s'.ans.take i, lawTakes os p.1 = p.2) ∧ σ = [some (.ref a), some (.ref hl), some (.ref q), some (.ref t1), some (.ref po), some (.bl fb), x6, x7, x8, x9])
        ⟨Same.refl _, true, _, _, _, _, fun _ p hp => by simp at hp, rfl⟩ (fun i σ H' _ z => SqL.of (z.1 _ _ hpvs)) ?_ ?_⟩
      · rintro i y σ H7 hy ⟨s7, fb, x6, x7, x8, x9, hfb, rfl⟩
        obtain ⟨kv, hkv, hykv⟩ := pair_get' ppv hy
        obtain ⟨pr, hpr1, rfl⟩ : ∃ pr, s'.ans[i]? = some pr ∧ kv = (keyW pr.1, .bl pr.2) := by
          rw [kvC, List.getElem?_map] at hkv
          cases e : s'.ans[i]? with
          | none => rw [e] at hkv; cases hkv
          | some pr => rw [e] at hkv; exact ⟨pr, rfl, (Option.some.inj hkv).symm⟩
        obtain ⟨tt, xx, rfl, htt, hxx⟩ := hykv.mono s7
        simp only at htt hxx
        rw [keyW_tw] at hxx
        obtain ⟨g1, g2, g3⟩ := f7 pr (List.mem_of_getElem? hpr1)
        refine ⟨tt, _, rfl, SqT.of htt, rfl, _, _, rfl, _, _, rfl, rfl, ?_⟩
        refine ⟨_, rfl, _, rfl, n, hl, hs, .ref xx, pr.1, rfl, hH6.mono s7, hN, hn1, ⟨xx, rfl, hxx⟩, g1, g2, fun H8 s8 => ⟨_, rfl, rfl, _, rfl, iteNS (by rw [g3]) ?_⟩⟩
        refine ⟨_, rfl, _, rfl, n, po, os, .ref xx, pr.1, rfl, (hos6.mono s7).mono s8, oN, hn1, ⟨xx, rfl, s8 _ _ hxx⟩, g1, g2, fun H9 s9 => ⟨_, rfl, rfl, _, rfl, ?_⟩⟩
        have s69 := s7.trans (s8.trans s9)
        by_cases hq : lawTakes os pr.1 = pr.2
        · refine iteNS (by rw [hq]) ⟨s69, fb, _, _, _, _, fun e p hp => ?_, rfl⟩
          rw [List.take_add_one, hpr1] at hp
          rcases List.mem_append.mp hp with z | z
          · exact hfb e p z
          · simp at z
            rw [z]
            exact hq
        · rw [decide_eq_false (show ¬ V.bl (lawTakes os pr.1) = V.bl pr.2 from fun z => hq (by injection z))]
          exact iteT ⟨s69, false, _, _, _, _, (fun e => by cases e), rfl⟩
      · rintro σ H7 ⟨s7, fb, x6, x7, x8, x9, hfb, rfl⟩
        refine ⟨_, rfl, fb, rfl, ?_⟩
        cases fb with
        | false => exact iteT (k _)
        | true =>
          have lp : pvs.length = s'.ans.length := by rw [Paired.length ppv, kvC, List.length_map]
          have hall := hfb rfl
          rw [lp, List.take_length] at hall
          have hb := f8 os (by rw [lo, gN.len]) like hall
          have hH7 := hH6.mono s7
          have hos7 := hos6.mono s7
          obtain ⟨hv7, hhv7, ph7⟩ := id hH7
          have lhv7 : hv7.length = n := by rw [Paired.length ph7, lh]
          refine iteF ⟨_, rfl, hl, _, rfl, .inl (SqL.of hhv7), _, rfl, by omega, by omega, for_range (lo := 0) (n := hv7.length) (fun i σ H' => Same H7 H' ∧ ∃ (x6 x7 x8 x9 : Option V), σ = [some (.ref a), some (.ref hl), some (.ref q), some (.ref t1), some (.ref po), some (.bl true), x6, x7, x8, x9])
            ⟨Same.refl _, _, _, _, _, rfl⟩ ?_ ?_⟩
          · rintro i σ H8 hi ⟨s8, y6, y7, y8, y9, rfl⟩
            have e0 : (0 : Int) + (i : Int) = ((i : Nat) : Int) := Int.zero_add _
            rw [e0]
            have s48 := (s46.trans s7).trans s8
            obtain ⟨o, oj⟩ : ∃ o, os[i]? = some o := ⟨os[i]'(by rw [oN.len]; omega), List.getElem?_eq_getElem _⟩
            obtain ⟨g, gj⟩ : ∃ g, gs[i]? = some g := ⟨gs[i]'(by rw [gN.len]; omega), List.getElem?_eq_getElem _⟩
            obtain ⟨ov, hov, pov⟩ := hos7.mono s8
            obtain ⟨o1, ho1, ho2⟩ := pair_get pov oj
            obtain ⟨g1, hg1, hg2⟩ := pair_get pg gj
            obtain ⟨B, hB⟩ := hb i o g oj gj
            obtain ⟨ok1, l1⟩ := oN.ok o (List.mem_of_getElem? oj)
            obtain ⟨ok2, l2⟩ := gN.ok g (List.mem_of_getElem? gj)
            refine ⟨_, rfl, _, rfl, rd_l hov ho1 ⟨_, rfl, rd_tC (i := 1) (s48 _ _ ht1) rfl (rd_tC (i := 1) (s48 _ _ ht2) rfl ⟨_, rfl, rd_t (s48 _ _ hx3) hg1 ⟨o1, g1, o, g, B, rfl, ho2, hg2.mono s48, ok1, ok2, by omega, hB, fun H9 s9 => ?_⟩⟩)⟩⟩
            exact ⟨rfl, _, rfl, iteF ⟨s8.trans s9, _, _, _, _, rfl⟩⟩
          · rintro σ H8 ⟨s8, y6, y7, y8, y9, rfl⟩
            exact k _
end
end Gr
namespace Gr
open PySem L2
/-! ### all houses of two rooms, run -/
def runF (L : Nat) (h : Hs) : Nat → ASt → Option (List Wd × Hs)
  | 0, s => match s.wish with
    | .shw g => some ([], g)
    | _ => none
  | k + 1, s => match s.wish with
    | .shw g => some ([], g)
    | .ask u => match hearF L s u (markH h u) with
      | some s' => match runF L h k s' with
        | some (us, g) => some (u :: us, g)
        | none => none
      | none => none
    | .non => none
def bits : Nat → List Wd
  | 0 => [[]]
  | n + 1 => (bits n).flatMap fun r => [0 :: r, 1 :: r]
def housesL (L : Nat) : List Hs := ⟨L, [1], [List.replicate L 0]⟩ :: ([0, 1].flatMap fun m => (bits L).flatMap fun r0 => (bits L).map fun r1 => (⟨L, [1, m], [r0, r1]⟩ : Hs))
def bisStep (h g : Hs) (B : Sk) : Sk := B.foldl (fun acc p => (List.range h.L).foldl (fun acc l => if acc.contains (stepH h p.1 l, stepH g p.2 l) then acc else acc ++ [(stepH h p.1 l, stepH g p.2 l)]) acc) B
def bisOf (h g : Hs) : Sk := bisStep h g (bisStep h g (bisStep h g [(0, 0)]))
def bisB (h g : Hs) (B : Sk) : Bool := B.contains (0, 0) && decide (B.length ≤ 100) && B.all fun p => decide (p.1 < h.marks.length) && decide (p.2 < g.marks.length) && decide (decide (h.marks.getD p.1 0 = 0) = decide (g.marks.getD p.2 0 = 0)) && (List.range h.L).all fun l => B.contains (stepH h p.1 l, stepH g p.2 l)
def okRun (L : Nat) (h : Hs) (us : List Wd) (g : Hs) : Bool := (us.all fun u => (u.all fun x => decide (x < L)) && decide (u.length ≤ 2) && decide (markH g u = markH h u)) && us.contains [] && ((List.range L).all fun l => us.contains [l]) && hsOkB g && decide (g.L = L) && decide (us.length ≤ 9) && bisB h g (bisOf h g)
def checkH (L : Nat) (a0 : ASt) (h : Hs) : Bool := match runF L h 9 a0 with
  | none => false
  | some (us, g) => okRun L h us g
def startF (L : Nat) : ASt := (settleF L 3 initS).getD initS
theorem chk2 : (housesL 2).all (checkH 2 (startF 2)) = true := by decide +kernel
theorem chk3 : (housesL 3).all (checkH 3 (startF 3)) = true := by decide +kernel
theorem chk4 : (housesL 4).all (checkH 4 (startF 4)) = true := by decide +kernel
theorem st2 : (settleF 2 3 initS).isSome = true := by decide +kernel
theorem st3 : (settleF 3 3 initS).isSome = true := by decide +kernel
theorem st4 : (settleF 4 3 initS).isSome = true := by decide +kernel
end Gr
namespace Gr
open PySem L2
/-! ### rows that use one helper -/
theorem spread_cons (n c : Nat) (u : Wd) : spreadF n (c :: u) = spreadS n c ++ spreadF n u := by
  unfold spreadF
  rw [List.flatMap_cons]
theorem law_spread {hs : List Hs} {n : Nat} (hn : hs.length = n) (h0 : ∀ c, c < n → markAt hs c 0 ≠ 0) : ∀ (u rest : Wd) (j r : Nat) (st : Sk), (∀ x ∈ u, x < 1 + n) → lawGo hs (spreadF n u ++ rest) ((j, r) :: st) = lawGo hs rest ((j, u.foldl (stepAt hs j) r) :: st)
  | [], _, _, _, _, _ => rfl
  | c :: u, rest, j, r, st, hu => by
    have hc := hu c (by simp)
    have ih := law_spread hn h0 u rest j (stepAt hs j r c) st fun x hx => hu x (by simp [hx])
    rw [spread_cons, List.foldl_cons, ← ih]
    have n1 : c ≠ 1 + hs.length := by omega
    unfold spreadS
    by_cases h1 : 1 ≤ c
    · rw [if_pos h1]
      simp only [List.cons_append, List.nil_append]
      rw [lawGo]
      simp only [if_neg n1, if_pos h1]
      rw [lawGo]
      simp only [hn, if_true, if_neg (h0 (c - 1) (by omega))]
    · rw [if_neg h1]
      simp only [List.cons_append, List.nil_append]
      rw [lawGo]
      simp only [if_neg n1, if_neg h1]
theorem law_use {hs : List Hs} {n j : Nat} {u : Wd} (hn : hs.length = n) (h0 : ∀ c, c < n → markAt hs c 0 ≠ 0) (h1 : ∀ l, 1 ≤ l → l < 1 + n → markAt hs 0 (stepAt hs 0 0 l) ≠ 0) (hj : j < n) (hu : ∀ x ∈ u, x < 1 + n) :
    lawTakes hs (useRow n j u) = decide (markAt hs j (u.foldl (stepAt hs j) 0) ≠ 0) := by
  unfold lawTakes useRow rowW
  by_cases h : j = 0
  · subst h
    rw [if_pos rfl]
    have := law_spread hn h0 u [] 0 0 [] hu
    rw [List.append_nil] at this
    rw [this, lawGo]
    rfl
  · rw [if_neg h]
    simp only [List.cons_append]
    rw [lawGo]
    simp only [if_neg (show ¬ (1 + j = 1 + hs.length) by omega), if_pos (show 1 ≤ 1 + j by omega), show 1 + j - 1 = j by omega]
    rw [law_spread hn h0 u [1 + n] j 0 _ hu]
    rw [lawGo]
    simp only [hn, if_true]
    have h2 := h1 (1 + j) (by omega) (by omega)
    by_cases h3 : markAt hs j (u.foldl (stepAt hs j) 0) = 0
    · simp [h3]
    · rw [if_neg h3, lawGo]
      simp [h2, h3]
theorem nest_spread (n : Nat) : ∀ (u rest : Wd) (k : Nat), (∀ x ∈ u, x < 1 + n) → nestF n (spreadF n u ++ rest) k = nestF n rest k
  | [], _, _, _ => rfl
  | c :: u, rest, k, hu => by
    have hc := hu c (by simp)
    have ih := nest_spread n u rest k fun x hx => hu x (by simp [hx])
    rw [spread_cons, ← ih]
    unfold spreadS
    by_cases h1 : 1 ≤ c
    · rw [if_pos h1]
      simp only [List.cons_append, List.nil_append]
      rw [nestF, if_neg (show c ≠ 1 + n by omega), if_neg (show ¬ 1 + n < c by omega), if_pos h1, nestF, if_pos rfl]
      simp
    · rw [if_neg h1]
      simp only [List.cons_append, List.nil_append]
      rw [nestF, if_neg (show c ≠ 1 + n by omega), if_neg (show ¬ 1 + n < c by omega), if_neg h1]
theorem nest_use {n j : Nat} {u : Wd} (hj : j < n) (hu : ∀ x ∈ u, x < 1 + n) : nestF n (useRow n j u) 0 = true := by
  unfold useRow rowW
  by_cases h : j = 0
  · rw [if_pos h]
    have := nest_spread n u [] 0 hu
    rw [List.append_nil] at this
    rw [this]
    rfl
  · rw [if_neg h]
    simp only [List.cons_append]
    rw [nestF, if_neg (show 1 + j ≠ 1 + n by omega), if_neg (show ¬ 1 + n < 1 + j by omega), if_pos (show 1 ≤ 1 + j by omega), nest_spread n u [1 + n] _ hu, nestF, if_pos rfl]
    rfl
theorem use_len {n j : Nat} {u : Wd} (h : u.length ≤ 2) : (useRow n j u).length ≤ 1000 := by
  have := spread_len n u
  unfold useRow rowW
  split
  · omega
  · simp only [List.cons_append, List.length_cons, List.length_append, List.length_nil]
    omega
def callsF (u : Wd) : List Pt := (u.filter fun c => decide (1 ≤ c)).map fun c => (c - 1, [])
theorem parts_spread (n : Nat) : ∀ (u rest : Wd) (found : List Pt) (j : Nat) (w : Wd) (st : List Pt), (∀ x ∈ u, x < 1 + n) → partsGo n (spreadF n u ++ rest) found ((j, w) :: st) = partsGo n rest (found ++ callsF u) ((j, w ++ u) :: st)
  | [], rest, found, j, w, st, _ => by simp [spreadF, callsF]
  | c :: u, rest, found, j, w, st, hu => by
    have hc := hu c (by simp)
    have ih := fun f => parts_spread n u rest f j (w ++ [c]) st fun x hx => hu x (by simp [hx])
    rw [spread_cons]
    unfold spreadS
    by_cases h1 : 1 ≤ c
    · rw [if_pos h1]
      simp only [List.cons_append, List.nil_append]
      rw [partsGo]
      simp only [if_neg (show ¬ c = 1 + n by omega), if_pos h1]
      rw [partsGo]
      simp only [if_true]
      rw [ih]
      simp [callsF, List.filter_cons, h1]
    · rw [if_neg h1]
      simp only [List.cons_append, List.nil_append]
      rw [partsGo]
      simp only [if_neg (show ¬ c = 1 + n by omega), if_neg h1]
      rw [ih]
      simp [callsF, List.filter_cons, h1]
theorem parts_use {n j : Nat} {u : Wd} (hj : j < n) (hu : ∀ x ∈ u, x < 1 + n) : partsF n (useRow n j u) = callsF u ++ (if j = 0 then [(0, u)] else [(j, u), (0, [1 + j])]) := by
  unfold partsF useRow rowW
  by_cases h : j = 0
  · rw [if_pos h, if_pos h]
    have := parts_spread n u [] [] 0 [] [] hu
    rw [List.append_nil] at this
    rw [this, partsGo]
    simp
  · rw [if_neg h, if_neg h]
    simp only [List.cons_append]
    rw [partsGo]
    simp only [if_neg (show ¬ (1 + j = 1 + n) by omega), if_pos (show 1 ≤ 1 + j by omega), show 1 + j - 1 = j by omega]
    rw [parts_spread n u [1 + n] _ _ _ _ hu, partsGo]
    simp only [if_true]
    rw [partsGo]
    simp
theorem calls_mem {n : Nat} {u : Wd} (hu : ∀ x ∈ u, x < 1 + n) : ∀ q ∈ callsF u, q.2 = [] ∧ q.1 < n := fun q hq => by
  unfold callsF at hq
  obtain ⟨c, hc, rfl⟩ := List.mem_map.mp hq
  obtain ⟨h1, h2⟩ := List.mem_filter.mp hc
  have := hu c h1
  simp at h2
  exact ⟨rfl, by show c - 1 < n; omega⟩
end Gr
namespace Gr
open PySem L2
theorem bits_mem : ∀ (L : Nat) (w : Wd), w.length = L → (∀ x ∈ w, x < 2) → w ∈ bits L
  | 0, [], _, _ => by simp [bits]
  | 0, _ :: _, h, _ => by simp at h
  | L + 1, [], h, _ => by simp at h
  | L + 1, x :: w, h, hx => by
    have ih := bits_mem L w (by simpa using h) fun y hy => hx y (by simp [hy])
    unfold bits
    refine List.mem_flatMap.mpr ⟨w, ih, ?_⟩
    have := hx x (by simp)
    rcases (show x = 0 ∨ x = 1 by omega) with e | e <;> subst e <;> simp
theorem houses_mem {L : Nat} {h : Hs} (o : HsOk h) (hL : h.L = L) (m0 : h.marks[0]? = some 1) : h ∈ housesL L := by
  obtain ⟨rows, pos, two, row, bits', few⟩ := o
  obtain ⟨L', marks, ways⟩ := h
  simp only at *
  subst hL
  match marks, ways, rows, pos, two, row, bits', m0 with
  | [a], [y], _, _, _, row, _, m0 =>
    obtain ⟨ly, hy⟩ := row y (by simp)
    simp at m0
    subst m0
    have e : y = List.replicate L' 0 := by
      rw [← ly]
      refine List.eq_replicate_of_mem fun x hx => ?_
      have := hy x hx
      simp at this
      omega
    rw [e]
    unfold housesL
    exact List.mem_cons_self
  | [a, b], [y, z], _, _, _, row, bb, m0 =>
    obtain ⟨ly, hy⟩ := row y (by simp)
    obtain ⟨lz, hz⟩ := row z (by simp)
    simp at m0
    subst m0
    have hb := bb b (by simp)
    unfold housesL
    refine List.mem_cons_of_mem _ (List.mem_flatMap.mpr ⟨b, ?_, List.mem_flatMap.mpr ⟨y, bits_mem L' y ly hy, List.mem_map.mpr ⟨z, bits_mem L' z lz hz, rfl⟩⟩⟩)
    rcases (show b = 0 ∨ b = 1 by omega) with e | e <;> subst e <;> simp
theorem runF_like {L : Nat} {h h' : Hs} : ∀ (k : Nat) (s : ASt) (us : List Wd) (g : Hs), runF L h k s = some (us, g) → (∀ u ∈ us, markH h' u = markH h u) → runF L h' k s = some (us, g)
  | 0, s, us, g, e, _ => e
  | k + 1, s, us, g, e, hu => by
    rw [runF] at e ⊢
    cases hw : s.wish with
    | non => rw [hw] at e; cases e
    | shw g' => rw [hw] at e; exact e
    | ask u =>
      rw [hw] at e
      simp only at e ⊢
      cases h1 : hearF L s u (markH h u) with
      | none => rw [h1] at e; cases e
      | some s' =>
        rw [h1] at e
        simp only at e
        cases h2 : runF L h k s' with
        | none => rw [h2] at e; cases e
        | some p =>
          obtain ⟨us', g'⟩ := p
          rw [h2] at e
          simp only [Option.some.injEq, Prod.mk.injEq] at e
          obtain ⟨rfl, rfl⟩ := e
          rw [hu u (by simp), h1]
          simp only
          rw [runF_like k s' us' g' h2 fun v hv => hu v (by simp [hv])]
/-- what a run gives -/
structure RunOk (L : Nat) (h : Hs) (us : List Wd) (g : Hs) : Prop where
  let' : ∀ u ∈ us, (∀ x ∈ u, x < L) ∧ u.length ≤ 2 ∧ markH g u = markH h u
  nil : [] ∈ us
  one : ∀ l, l < L → [l] ∈ us
  ok : hsOkB g = true
  gL : g.L = L
  few : us.length ≤ 9
  bis : ∃ B, Bisim h g B
theorem bis_of {h g : Hs} {B : Sk} (b : bisB h g B = true) : Bisim h g B := by
  unfold bisB at b
  simp only [Bool.and_eq_true, List.all_eq_true, decide_eq_true_eq] at b
  obtain ⟨⟨b1, b2⟩, b3⟩ := b
  refine ⟨List.contains_iff_mem.mp b1, b2, fun p hp => ?_⟩
  obtain ⟨⟨⟨c1, c2⟩, c3⟩, c4⟩ := b3 p hp
  refine ⟨c1, c2, ?_, fun l hl => List.contains_iff_mem.mp (c4 l (List.mem_range.mpr hl))⟩
  simpa using c3
theorem okRun_of {L : Nat} {h : Hs} {us : List Wd} {g : Hs} (b : okRun L h us g = true) : RunOk L h us g := by
  unfold okRun at b
  simp only [Bool.and_eq_true, List.all_eq_true, decide_eq_true_eq] at b
  obtain ⟨⟨⟨⟨⟨⟨b1, b2⟩, b3⟩, b4⟩, b5⟩, b6⟩, b7⟩ := b
  exact ⟨fun u hu => ⟨(b1 u hu).1.1, (b1 u hu).1.2, (b1 u hu).2⟩, List.contains_iff_mem.mp b2, fun l hl => List.contains_iff_mem.mp (b3 l (List.mem_range.mpr hl)), b4, b5, b6, _, bis_of b7⟩
theorem start_some {L : Nat} (h : L = 2 ∨ L = 3 ∨ L = 4) : settleF L 3 initS = some (startF L) := by
  unfold startF
  have : (settleF L 3 initS).isSome = true := by
    rcases h with e | e | e <;> subst e
    · exact st2
    · exact st3
    · exact st4
  obtain ⟨a, e⟩ := Option.isSome_iff_exists.mp this
  rw [e]
  rfl
theorem run_all {L : Nat} {h : Hs} (hL : L = 2 ∨ L = 3 ∨ L = 4) (hm : h ∈ housesL L) : ∃ us g, runF L h 9 (startF L) = some (us, g) ∧ RunOk L h us g := by
  have : checkH L (startF L) h = true := by
    rcases hL with e | e | e <;> subst e
    · exact List.all_eq_true.mp chk2 h hm
    · exact List.all_eq_true.mp chk3 h hm
    · exact List.all_eq_true.mp chk4 h hm
  unfold checkH at this
  cases e : runF L h 9 (startF L) with
  | none => rw [e] at this; cases this
  | some p =>
    obtain ⟨us, g⟩ := p
    rw [e] at this
    exact ⟨us, g, rfl, okRun_of this⟩
/-- marks and steps by the list of houses -/
theorem markAt_run {hs : List Hs} {j : Nat} {h : Hs} (e : hs[j]? = some h) (u : Wd) : markAt hs j (u.foldl (stepAt hs j) 0) = markH h u := by
  have e1 : stepAt hs j = stepH h := by
    funext r s
    unfold stepAt
    rw [e]
  rw [e1]
  unfold markAt markH runH
  rw [e]
theorem mark_le {h : Hs} (o : HsOk h) (u : Wd) : markH h u ≤ 1 := by
  unfold markH
  rw [List.getD_eq_getElem?_getD]
  cases e : h.marks[runH h 0 u]? with
  | none => exact Nat.zero_le _
  | some m => exact o.bits m (List.mem_of_getElem? e)
theorem b2n_mark {h : Hs} (o : HsOk h) (u : Wd) : b2n (decide (markH h u ≠ 0)) = markH h u := by
  have := mark_le o u
  rcases (show markH h u = 0 ∨ markH h u = 1 by omega) with e | e <;> rw [e] <;> rfl
/-- the plan for the hidden houses -/
structure Plan (n : Nat) (hs : List Hs) (us : Nat → List Wd) (gs : Nat → Hs) : Prop where
  n1 : 1 ≤ n
  n3 : n ≤ 3
  len : hs.length = n
  hid : ∀ (j : Nat) (h : Hs), hs[j]? = some h → Hid n j h
  run : ∀ (j : Nat) (h : Hs), hs[j]? = some h → runF (1 + n) h 9 (startF (1 + n)) = some (us j, gs j)
  ok : ∀ (j : Nat) (h : Hs), hs[j]? = some h → RunOk (1 + n) h (us j) (gs j)
theorem plan_of {n : Nat} {hs : List Hs} (n1 : 1 ≤ n) (n3 : n ≤ 3) (len : hs.length = n) (hid : ∀ (j : Nat) (h : Hs), hs[j]? = some h → Hid n j h) : ∃ us gs, Plan n hs us gs := by
  have key : ∀ j : Nat, ∃ p : List Wd × Hs, ∀ h, hs[j]? = some h → runF (1 + n) h 9 (startF (1 + n)) = some (p.1, p.2) ∧ RunOk (1 + n) h p.1 p.2 := fun j => by
    cases e : hs[j]? with
    | none => exact ⟨([], ⟨0, [], []⟩), fun h z => by cases z⟩
    | some h =>
      have hd := hid j h e
      obtain ⟨us, g, h1, h2⟩ := run_all (L := 1 + n) (by omega) (houses_mem hd.ok hd.L hd.m0)
      exact ⟨(us, g), fun h' z => by
        obtain rfl := Option.some.inj z
        exact ⟨h1, h2⟩⟩
  exact ⟨fun j => (key j).choose.1, fun j => (key j).choose.2, n1, n3, len, hid, fun j h e => ((key j).choose_spec h e).1, fun j h e => ((key j).choose_spec h e).2⟩
section
variable {n : Nat} {hs : List Hs} {us : Nat → List Wd} {gs : Nat → Hs}
theorem Plan.get (p : Plan n hs us gs) {j : Nat} (hj : j < n) : ∃ h, hs[j]? = some h := ⟨hs[j]'(by rw [p.len]; exact hj), List.getElem?_eq_getElem _⟩
theorem Plan.mark0 (p : Plan n hs us gs) {j : Nat} {h : Hs} (e : hs[j]? = some h) : markH h [] = 1 := by
  have := (p.hid j h e).m0
  show h.marks.getD 0 0 = 1
  rw [List.getD_eq_getElem?_getD, this]
  rfl
theorem Plan.m0 (p : Plan n hs us gs) : ∀ c, c < n → markAt hs c 0 ≠ 0 := fun c hc => by
  obtain ⟨h, e⟩ := p.get hc
  have := markAt_run e []
  have h1 := p.mark0 e
  simp only [List.foldl_nil] at this
  omega
theorem Plan.m1 (p : Plan n hs us gs) : ∀ l, 1 ≤ l → l < 1 + n → markAt hs 0 (stepAt hs 0 0 l) ≠ 0 := fun l h1 h2 => by
  have n1 := p.n1
  obtain ⟨h, e⟩ := p.get (j := 0) (by omega)
  have hz := (p.hid 0 h e).z rfl l h1 h2
  have e1 : stepAt hs 0 0 l = 0 := by
    unfold stepAt
    rw [e]
    exact hz
  rw [e1]
  exact p.m0 0 (by omega)
theorem Plan.takes (p : Plan n hs us gs) {j : Nat} {h : Hs} {u : Wd} (e : hs[j]? = some h) (hu : ∀ x ∈ u, x < 1 + n) : lawTakes hs (useRow n j u) = decide (markH h u ≠ 0) := by
  have hj : j < n := by
    have := (List.getElem?_eq_some_iff.mp e).1
    rw [p.len] at this
    exact this
  rw [law_use p.len p.m0 p.m1 hj hu, markAt_run e]
end
end Gr
namespace Gr
open PySem L2
theorem ansOf_some {ans : Ans} {r : Wd} {b : Bool} (h : ansOf ans r = some b) : (r, b) ∈ ans := by
  unfold ansOf at h
  cases e : ans.find? fun p => decide (p.1 = r) with
  | none => rw [e] at h; cases h
  | some p =>
    rw [e] at h
    have h1 := List.mem_of_find?_eq_some e
    have h2' := List.find?_some e
    have h2 : p.1 = r := of_decide_eq_true h2'
    have h3 : p.2 = b := Option.some.inj h
    obtain ⟨x, y⟩ := p
    simp only at h2 h3
    rw [← h2, ← h3]
    exact h1
theorem ansOf_none {ans : Ans} {r : Wd} (h : ansOf ans r = none) : r ∉ ans.map (·.1) := fun m => by
  obtain ⟨p, hp, e⟩ := List.mem_map.mp m
  unfold ansOf at h
  cases q : ans.find? fun p => decide (p.1 = r) with
  | some x => rw [q] at h; cases h
  | none =>
    have := List.find?_eq_none.mp q p hp
    simp at this
    exact this e
theorem ansOf_app {ans : Ans} {r r' : Wd} {b : Bool} (h : (ansOf ans r).isSome = true) : (ansOf (ans ++ [(r', b)]) r).isSome = true := by
  unfold ansOf at h ⊢
  rw [List.find?_append]
  cases q : ans.find? fun p => decide (p.1 = r) with
  | none => rw [q] at h; cases h
  | some x => rfl
theorem ansOf_new {ans : Ans} {r : Wd} {b : Bool} : (ansOf (ans ++ [(r, b)]) r).isSome = true := by
  unfold ansOf
  rw [List.find?_append]
  cases q : ans.find? fun p => decide (p.1 = r) with
  | none => simp
  | some x => rfl
section
variable {n : Nat} {hs : List Hs} {us : Nat → List Wd} {gs : Nat → Hs}
/-- the call asker's state on its way -/
structure Way (n : Nat) (hs : List Hs) (us : Nat → List Wd) (gs : Nat → Hs) (s : CSt) (rest : Nat → List Wd) : Prop where
  len : s.asks.length = n
  run : ∀ (j : Nat) (h : Hs) (a : ASt), hs[j]? = some h → s.asks[j]? = some a → ∃ k, runF (1 + n) h k a = some (rest j, gs j)
  sub : ∀ j, j < n → ∃ dn, us j = dn ++ rest j ∧ ∀ u ∈ dn, (ansOf s.ans (useRow n j u)).isSome = true
  ans : ∀ p ∈ s.ans, p.2 = lawTakes hs p.1 ∧ ∃ j u, j < n ∧ u ∈ us j ∧ p.1 = useRow n j u
  nd : (s.ans.map (·.1)).Nodup
def gsL (n : Nat) (gs : Nat → Hs) : List Hs := (List.range n).map gs
def sizeOf3 (rest : Nat → List Wd) : Nat := (rest 0).length + (rest 1).length + (rest 2).length
def planned (n : Nat) (us : Nat → List Wd) : List Wd := (List.range n).flatMap fun j => (us j).map (useRow n j)
theorem Plan.few (p : Plan n hs us gs) : (planned n us).length ≤ 27 := by
  have h : ∀ j, j < n → (us j).length ≤ 9 := fun j hj => by
    obtain ⟨h, e⟩ := p.get hj
    exact (p.ok j h e).few
  have n1 := p.n1
  have n3 := p.n3
  unfold planned
  rcases (show n = 1 ∨ n = 2 ∨ n = 3 by omega) with e | e | e <;> subst e
  · have h0 := h 0 (by omega)
    simp [List.range_succ]
    omega
  · have h0 := h 0 (by omega)
    have h1 := h 1 (by omega)
    simp [List.range_succ]
    omega
  · have h0 := h 0 (by omega)
    have h1 := h 1 (by omega)
    have h2 := h 2 (by omega)
    simp [List.range_succ]
    omega
theorem mem_planned {j : Nat} {u : Wd} (hj : j < n) (hu : u ∈ us j) : useRow n j u ∈ planned n us := List.mem_flatMap.mpr ⟨j, List.mem_range.mpr hj, List.mem_map.mpr ⟨u, hu, rfl⟩⟩
theorem Way.few {s : CSt} {rest : Nat → List Wd} (w : Way n hs us gs s rest) : s.ans.length ≤ (planned n us).length := by
  have := nodup_le w.nd (m := planned n us) fun r hr => by
    obtain ⟨p, hp, rfl⟩ := List.mem_map.mp hr
    obtain ⟨_, j, u, hj, hu, e⟩ := w.ans p hp
    rw [e]
    exact mem_planned hj hu
  rw [List.length_map] at this
  exact this
theorem Way.asker {s : CSt} {rest : Nat → List Wd} (p : Plan n hs us gs) (w : Way n hs us gs s rest) {j : Nat} {a : ASt} (e : s.asks[j]? = some a) : j < n ∧ ∃ h k, hs[j]? = some h ∧ runF (1 + n) h k a = some (rest j, gs j) := by
  have hj : j < n := by
    have := (List.getElem?_eq_some_iff.mp e).1
    rw [w.len] at this
    exact this
  obtain ⟨h, eh⟩ := p.get hj
  obtain ⟨k, hk⟩ := w.run j h a eh e
  exact ⟨hj, h, k, eh, hk⟩
theorem runF_shw {L : Nat} {h g : Hs} {k : Nat} {a : ASt} {r : List Wd} {g' : Hs} (e : runF L h k a = some (r, g')) (hw : a.wish = .shw g) : r = [] ∧ g' = g := by
  cases k with
  | zero =>
    rw [runF, hw] at e
    simp at e
    exact ⟨e.1, e.2.symm⟩
  | succ k =>
    rw [runF, hw] at e
    simp at e
    exact ⟨e.1, e.2.symm⟩
theorem runF_ask {L : Nat} {h : Hs} {k : Nat} {a : ASt} {u : Wd} {r : List Wd} {g' : Hs} (e : runF L h k a = some (r, g')) (hw : a.wish = .ask u) : ∃ k' a' r', hearF L a u (markH h u) = some a' ∧ runF L h k' a' = some (r', g') ∧ r = u :: r' := by
  cases k with
  | zero => rw [runF, hw] at e; cases e
  | succ k =>
    rw [runF, hw] at e
    simp only at e
    cases h1 : hearF L a u (markH h u) with
    | none => rw [h1] at e; cases e
    | some a' =>
      rw [h1] at e
      simp only at e
      cases h2 : runF L h k a' with
      | none => rw [h2] at e; cases e
      | some p =>
        obtain ⟨us', g''⟩ := p
        rw [h2] at e
        simp only [Option.some.injEq, Prod.mk.injEq] at e
        obtain ⟨rfl, rfl⟩ := e
        exact ⟨k, a', us', rfl, h2, rfl⟩
theorem runF_non {L : Nat} {h : Hs} {k : Nat} {a : ASt} {r : List Wd × Hs} (e : runF L h k a = some r) : a.wish ≠ .non := fun hw => by
  cases k with
  | zero => rw [runF, hw] at e; cases e
  | succ k => rw [runF, hw] at e; cases e
theorem Plan.word (p : Plan n hs us gs) {j : Nat} {u : Wd} (hj : j < n) (hu : u ∈ us j) : (∀ x ∈ u, x < 1 + n) ∧ u.length ≤ 2 := by
  obtain ⟨h, e⟩ := p.get hj
  obtain ⟨a, b, _⟩ := (p.ok j h e).let' u hu
  exact ⟨a, b⟩
theorem gsL_get {j : Nat} {g : Hs} (h : (gsL n gs)[j]? = some g) : j < n ∧ g = gs j := by
  unfold gsL at h
  rw [List.getElem?_map] at h
  cases e : (List.range n)[j]? with
  | none => rw [e] at h; cases h
  | some i =>
    rw [e] at h
    obtain ⟨h1, h2⟩ := List.getElem?_eq_some_iff.mp e
    rw [List.length_range] at h1
    rw [List.getElem_range] at h2
    subst h2
    exact ⟨h1, (Option.some.inj h).symm⟩
theorem gsL_at {j : Nat} (h : j < n) : (gsL n gs)[j]? = some (gs j) := by
  unfold gsL
  rw [List.getElem?_map, List.getElem?_eq_getElem (by rw [List.length_range]; exact h), List.getElem_range]
  rfl
theorem gsL_len : (gsL n gs).length = n := by
  unfold gsL
  rw [List.length_map, List.length_range]
theorem Plan.gsN (p : Plan n hs us gs) : HsN n (gsL n gs) := by
  refine ⟨gsL_len, fun g hg => ?_⟩
  obtain ⟨j, hj, e⟩ := List.getElem_of_mem hg
  obtain ⟨h1, rfl⟩ := gsL_get (n := n) (gs := gs) (j := j) (g := g) (by rw [List.getElem?_eq_getElem hj, e])
  obtain ⟨h, eh⟩ := p.get h1
  have o := p.ok j h eh
  exact ⟨hsOk_of o.ok, o.gL⟩
/-- the marks that a guess has at the words asked -/
theorem Plan.gmark (p : Plan n hs us gs) {j : Nat} {h : Hs} {u : Wd} (e : hs[j]? = some h) (hu : u ∈ us j) : markOf (gsL n gs) (j, u) = markH h u := by
  have hj : j < n := by
    have := (List.getElem?_eq_some_iff.mp e).1
    rw [p.len] at this
    exact this
  unfold markOf
  rw [gsL_at hj]
  exact ((p.ok j h e).let' u hu).2.2
theorem Plan.gmark0 (p : Plan n hs us gs) {j : Nat} (hj : j < n) : markOf (gsL n gs) (j, []) ≠ 0 := by
  obtain ⟨h, e⟩ := p.get hj
  rw [p.gmark e (p.ok j h e).nil, p.mark0 e]
  decide
theorem Plan.gmark1 (p : Plan n hs us gs) {l : Nat} (h1 : 1 ≤ l) (h2 : l < 1 + n) : markOf (gsL n gs) (0, [l]) ≠ 0 := by
  have n1 := p.n1
  obtain ⟨h, e⟩ := p.get (j := 0) (by omega)
  rw [p.gmark e ((p.ok 0 h e).one l h2)]
  have hz := (p.hid 0 h e).z rfl l h1 h2
  have h3 : markH h [l] = markH h [] := by
    show h.marks.getD (stepH h 0 l) 0 = h.marks.getD 0 0
    rw [hz]
  rw [h3, p.mark0 e]
  decide
theorem Plan.ansOk (p : Plan n hs us gs) {s : CSt} {rest : Nat → List Wd} (w : Way n hs us gs s rest) : s.ans.all (ansOk (gsL n gs)) = true := by
  refine List.all_eq_true.mpr fun q hq => ?_
  obtain ⟨h1, j, u, hj, hu, e⟩ := w.ans q hq
  obtain ⟨h, eh⟩ := p.get hj
  obtain ⟨l1, l2⟩ := p.word hj hu
  have hp := parts_use hj l1
  have cm := calls_mem l1
  have n1 := p.n1
  have ptok : ∀ (i : Nat) (v : Wd), i < n → (∀ x ∈ v, x < 1 + n) → v.length ≤ 2 → ptOk (gsL n gs) (i, v) = true := fun i v hi hv hv2 => by
    obtain ⟨hh, ehh⟩ := p.get hi
    have o := p.ok i hh ehh
    unfold ptOk
    simp only [gsL_at hi, o.gL, o.ok, Bool.true_and, Bool.and_eq_true, List.all_eq_true, decide_eq_true_eq]
    exact ⟨hv, by omega⟩
  unfold Gr.ansOk
  rw [e, gsL_len]
  simp only [Bool.and_eq_true, decide_eq_true_eq]
  refine ⟨⟨⟨nest_use hj l1, use_len l2⟩, ?_⟩, ?_⟩
  · rw [hp]
    refine List.all_eq_true.mpr fun q hq => ?_
    rcases List.mem_append.mp hq with z | z
    · obtain ⟨z1, z2⟩ := cm q z
      obtain ⟨i, v⟩ := q
      simp only at z1 z2
      subst z1
      exact ptok i [] z2 (fun x hx => by simp at hx) (by simp)
    · split at z
      · rw [List.mem_singleton.mp z]
        exact ptok 0 u (by omega) l1 l2
      · simp only [List.mem_cons, List.not_mem_nil, or_false] at z
        rcases z with z | z
        · rw [z]
          exact ptok j u hj l1 l2
        · rw [z]
          exact ptok 0 [1 + j] (by omega) (fun x hx => by rw [List.mem_singleton.mp hx]; omega) (by simp)
  · rw [h1, e, p.takes eh l1]
    unfold takesB
    rw [gsL_len, hp, List.all_append]
    have hc : (callsF u).all (fun q => decide (markOf (gsL n gs) q ≠ 0)) = true := by
      refine List.all_eq_true.mpr fun q hq => ?_
      obtain ⟨z1, z2⟩ := cm q hq
      obtain ⟨i, v⟩ := q
      simp only at z1 z2
      subst z1
      exact decide_eq_true (p.gmark0 z2)
    rw [hc, Bool.true_and]
    have hm := p.gmark eh hu
    split
    · rename_i hj0
      subst hj0
      rw [List.all_cons, List.all_nil, Bool.and_true, hm]
    · have h2 := p.gmark1 (l := 1 + j) (by omega) (by omega)
      rw [List.all_cons, List.all_cons, List.all_nil, Bool.and_true, hm, decide_eq_true h2, Bool.and_true]
end
end Gr
namespace Gr
open PySem L2
section
variable {n : Nat} {hs : List Hs} {us : Nat → List Wd} {gs : Nat → Hs}
/-- where a settling ends -/
def EndsAt (n : Nat) (us : Nat → List Wd) (gs : Nat → Hs) (s : CSt) (rest : Nat → List Wd) : Prop :=
  (∃ j u, j < n ∧ u ∈ us j ∧ s.wish = .ask (useRow n j u) ∧ ansOf s.ans (useRow n j u) = none) ∨ ((∀ j, j < n → rest j = []) ∧ s.wish = .shw (gsL n gs))
theorem Way.guard {s : CSt} {rest : Nat → List Wd} (p : Plan n hs us gs) (w : Way n hs us gs s rest) : cGuard n s = true := by
  unfold cGuard
  have h1 := w.few
  have h2 := p.few
  simp only [Bool.and_eq_true, decide_eq_true_eq, List.all_eq_true]
  refine ⟨⟨p.n3, by omega⟩, fun a ha => ?_⟩
  obtain ⟨j, hj, e⟩ := List.getElem_of_mem ha
  obtain ⟨_, h, k, _, hk⟩ := w.asker p (j := j) (a := a) (by rw [List.getElem?_eq_getElem hj, e])
  unfold notNon
  exact decide_eq_true (runF_non hk)
theorem sizeOf3_lt {rest rest' : Nat → List Wd} {j : Nat} (hj : j < 3) (h : (rest' j).length < (rest j).length) (ne : ∀ i, i ≠ j → rest' i = rest i) : sizeOf3 rest' < sizeOf3 rest := by
  unfold sizeOf3
  rcases (show j = 0 ∨ j = 1 ∨ j = 2 by omega) with e | e | e <;> subst e
  · rw [ne 1 (by omega), ne 2 (by omega)]
    omega
  · rw [ne 0 (by omega), ne 2 (by omega)]
    omega
  · rw [ne 0 (by omega), ne 1 (by omega)]
    omega
theorem settle (p : Plan n hs us gs) : ∀ (N : Nat) (s : CSt) (rest : Nat → List Wd), Way n hs us gs s rest → sizeOf3 rest < N → ∃ m s' rest', cSettleF n m s = some s' ∧ Way n hs us gs s' rest' ∧ s'.ans = s.ans ∧ EndsAt n us gs s' rest'
  | 0, _, _, _, h => by omega
  | N + 1, s, rest, w, hN => by
    have hg := w.guard p
    have n3 := p.n3
    have hstep : cStepF n s = match useF n s.ans with
      | some (some r) => some (true, { s with wish := .ask r })
      | some none => cAskF n s
      | none => none := by
      unfold cStepF
      exact if_pos hg
    -- asked as it stands
    have ask : ∀ (j : Nat) (u : Wd), j < n → u ∈ us j → ansOf s.ans (useRow n j u) = none → cStepF n s = some (true, { s with wish := .ask (useRow n j u) }) → ∃ m s' rest', cSettleF n m s = some s' ∧ Way n hs us gs s' rest' ∧ s'.ans = s.ans ∧ EndsAt n us gs s' rest' := fun j u hj hu ha hc =>
      ⟨1, { s with wish := .ask (useRow n j u) }, rest, by rw [cSettleF, hc], ⟨w.len, w.run, w.sub, w.ans, w.nd⟩, rfl, .inl ⟨j, u, hj, hu, rfl, ha⟩⟩
    cases hf : (List.range n).find? (useBad n s.ans) with
    | some j =>
      have hj : j < n := List.mem_range.mp (List.mem_of_find?_eq_some hf)
      have hb := List.find?_some hf
      unfold useBad at hb
      have hb := of_decide_eq_true hb
      obtain ⟨h, eh⟩ := p.get hj
      have hnil := (p.ok j h eh).nil
      have e0 : rowW n j [] = useRow n j [] := rfl
      cases ha : ansOf s.ans (rowW n j []) with
      | none =>
        refine ask j [] hj hnil ha ?_
        rw [hstep]
        unfold useF
        rw [hf]
        simp only [ha]
        rfl
      | some b =>
        exfalso
        have hm := (w.ans _ (ansOf_some ha)).1
        simp only at hm
        rw [e0, p.takes eh (by simp), p.mark0 eh] at hm
        rw [ha, hm] at hb
        exact hb rfl
    | none =>
      have hu : useF n s.ans = some none := by
        unfold useF
        rw [hf]
      rw [hu] at hstep
      simp only at hstep
      cases hi : s.asks.findIdx? isAsk with
      | some j =>
        obtain ⟨hjl, hja⟩ := List.findIdx?_eq_some_iff_getElem.mp hi
        have ej : s.asks[j]? = some s.asks[j] := List.getElem?_eq_getElem hjl
        generalize s.asks[j] = a at ej hja
        obtain ⟨hj, h, k, eh, hk⟩ := w.asker p ej
        have hja := hja.1
        cases hw : a.wish with
        | non => rw [isAsk, hw] at hja; cases hja
        | shw g => rw [isAsk, hw] at hja; cases hja
        | ask u =>
          obtain ⟨k', a', r', hh, hr, er⟩ := runF_ask hk hw
          obtain ⟨dn, hdn, hdt⟩ := w.sub j hj
          have huu : u ∈ us j := by rw [hdn, er]; simp
          obtain ⟨l1, l2⟩ := p.word hj huu
          have hlo : okLocal n u = true := by
            unfold okLocal
            simp only [Bool.and_eq_true, List.all_eq_true, decide_eq_true_eq]
            exact ⟨l1, by omega⟩
          have hca : cAskF n s = localF n s j a u := by
            unfold cAskF
            rw [hi]
            simp only [ej, hw, hlo, if_true]
          rw [hca] at hstep
          cases ha : ansOf s.ans (useRow n j u) with
          | none =>
            refine ask j u hj huu ha ?_
            rw [hstep]
            unfold localF
            rw [ha]
          | some b =>
            have hm := (w.ans _ (ansOf_some ha)).1
            simp only at hm
            rw [p.takes eh l1] at hm
            have hb : b2n b = markH h u := by
              rw [hm]
              exact b2n_mark (p.hid j h eh).ok u
            have hl : localF n s j a u = some (false, { s with asks := s.asks.set j a' }) := by
              unfold localF
              rw [ha]
              simp only [hb, hh]
            rw [hl] at hstep
            have w' : Way n hs us gs { s with asks := s.asks.set j a' } (fun i => if i = j then r' else rest i) := by
              refine ⟨by rw [List.length_set]; exact w.len, fun i h2 a2 e1 e2 => ?_, fun i hi2 => ?_, w.ans, w.nd⟩
              · simp only at e2 ⊢
                by_cases z : i = j
                · subst z
                  rw [List.getElem?_set_self hjl] at e2
                  obtain rfl := Option.some.inj e2
                  obtain rfl : h = h2 := by rw [eh] at e1; exact Option.some.inj e1
                  rw [if_pos rfl]
                  exact ⟨k', hr⟩
                · rw [List.getElem?_set_ne (Ne.symm z)] at e2
                  rw [if_neg z]
                  exact w.run i h2 a2 e1 e2
              · simp only
                by_cases z : i = j
                · subst z
                  rw [if_pos rfl]
                  refine ⟨dn ++ [u], by rw [hdn, er]; simp, fun v hv => ?_⟩
                  rcases List.mem_append.mp hv with q | q
                  · exact hdt v q
                  · rw [List.mem_singleton.mp q, ha]
                    rfl
                · rw [if_neg z]
                  exact w.sub i hi2
            have hlt : sizeOf3 (fun i => if i = j then r' else rest i) < sizeOf3 rest :=
              sizeOf3_lt (j := j) (by omega) (by simp only [if_true]; rw [er]; simp) fun i z => if_neg z
            obtain ⟨m, s', rest', h1, h2, h3, h4⟩ := settle p N _ _ w' (by omega)
            exact ⟨m + 1, s', rest', by rw [cSettleF, hstep]; exact h1, h2, h3, h4⟩
      | none =>
        have hno := List.findIdx?_eq_none_iff.mp hi
        have hshw : ∀ (j : Nat) (a : ASt), s.asks[j]? = some a → guessOf a = gs j ∧ rest j = [] := fun j a e => by
          obtain ⟨hj, h, k, eh, hk⟩ := w.asker p e
          have h1 := hno a (List.mem_of_getElem? e)
          cases hw : a.wish with
          | non => exact absurd hw (runF_non hk)
          | ask u => rw [isAsk, hw] at h1; cases h1
          | shw g =>
            obtain ⟨r1, r2⟩ := runF_shw hk hw
            rw [guessOf, hw]
            exact ⟨r2.symm, r1⟩
        have hg : s.asks.map guessOf = gsL n gs := by
          refine List.ext_getElem? fun j => ?_
          rw [List.getElem?_map]
          cases e : s.asks[j]? with
          | some a =>
            have hj := (w.asker p e).1
            rw [gsL_at hj]
            exact congrArg some (hshw j a e).1
          | none =>
            have h1 := List.getElem?_eq_none_iff.mp e
            rw [w.len] at h1
            exact (List.getElem?_eq_none_iff.mpr (by rw [gsL_len]; exact h1)).symm
        have hca : cAskF n s = some (true, { s with wish := .shw (gsL n gs) }) := by
          unfold cAskF
          rw [hi]
          simp only [hg, p.ansOk w, if_true]
        rw [hca] at hstep
        refine ⟨1, { s with wish := .shw (gsL n gs) }, rest, by rw [cSettleF, hstep], ⟨w.len, w.run, w.sub, w.ans, w.nd⟩, rfl, .inr ⟨fun j hj => ?_, rfl⟩⟩
        exact (hshw j _ (List.getElem?_eq_getElem (by rw [w.len]; exact hj))).2
theorem led (p : Plan n hs us gs) : ∀ (N : Nat) (s : CSt) (rest : Nat → List Wd), Way n hs us gs s rest → EndsAt n us gs s rest → (planned n us).length < s.ans.length + N → ∃ t s' rest', Led n hs t s s' ∧ t ≤ N + 2 ∧ Way n hs us gs s' rest' ∧ (∀ j, j < n → rest' j = []) ∧ s'.wish = .done (gsL n gs)
  | N, s, rest, w, .inr ⟨hr, hw⟩, hN => by
    refine ⟨2, { s with wish := .done (gsL n gs) }, rest, ?_, by omega, ⟨w.len, w.run, w.sub, w.ans, w.nd⟩, hr, rfl⟩
    refine .shw hw p.gsN (fun j h g e1 e2 => ?_) (.done rfl)
    obtain ⟨hj, rfl⟩ := gsL_get e2
    exact (p.ok j h e1).bis
  | 0, s, rest, w, .inl _, hN => by
    have := w.few
    omega
  | N + 1, s, rest, w, .inl ⟨j, u, hj, hu, hw, ha⟩, hN => by
    obtain ⟨l1, l2⟩ := p.word hj hu
    have hfew := w.few
    have h27 := p.few
    have w1 : Way n hs us gs { s with ans := s.ans ++ [(useRow n j u, lawTakes hs (useRow n j u))] } rest := by
      refine ⟨w.len, w.run, fun i hi => ?_, fun q hq => ?_, ?_⟩
      · obtain ⟨dn, h1, h2⟩ := w.sub i hi
        exact ⟨dn, h1, fun v hv => ansOf_app (h2 v hv)⟩
      · rcases List.mem_append.mp hq with z | z
        · exact w.ans q z
        · rw [List.mem_singleton.mp z]
          exact ⟨rfl, j, u, hj, hu, rfl⟩
      · show ((s.ans ++ [(useRow n j u, lawTakes hs (useRow n j u))]).map (·.1)).Nodup
        rw [List.map_append]
        exact nd_snoc w.nd (ansOf_none ha)
    obtain ⟨m, s1, rest1, h1, h2, h3, h4⟩ := settle p (sizeOf3 rest + 1) _ rest w1 (by omega)
    have hl : s1.ans.length = s.ans.length + 1 := by
      rw [h3]
      simp
    obtain ⟨t, s', rest', g1, g2, g3, g4, g5⟩ := led p N s1 rest1 h2 h4 (by omega)
    exact ⟨t + 1, s', rest', .ask hw ha (nest_use hj l1) (use_len l2) (by omega) ⟨m, h1⟩ g1, by omega, g3, g4, g5⟩
end
end Gr
namespace Gr
open PySem L2
theorem lawTakes_nil (os : List Hs) : lawTakes os [] = decide (markAt os 0 0 ≠ 0) := rfl
theorem lawTakes_one {os : List Hs} {n l : Nat} (hn : os.length = n) (h1 : 1 ≤ l) (h2 : l < 1 + n) : lawTakes os [l, 1 + n] = if markAt os (l - 1) 0 = 0 then false else decide (markAt os 0 (stepAt os 0 0 l) ≠ 0) := by
  unfold lawTakes
  rw [lawGo]
  simp only [if_neg (show ¬ l = 1 + os.length by omega), if_pos h1]
  rw [lawGo]
  simp only [hn, if_true]
  split
  · rfl
  · rw [lawGo]
    rfl
section
variable {n : Nat} {hs : List Hs} {us : Nat → List Wd} {gs : Nat → Hs}
/-- houses that answer the rows asked as the hidden ones do -/
theorem agree (p : Plan n hs us gs) {os : List Hs} (lo : os.length = n) (like : ∀ (j : Nat) (g o : Hs), (gsL n gs)[j]? = some g → os[j]? = some o → Like g o)
    (h : ∀ j u, j < n → u ∈ us j → lawTakes os (useRow n j u) = lawTakes hs (useRow n j u)) : ∀ (j : Nat) (o : Hs), os[j]? = some o → ∃ B, Bisim o (gs j) B := by
  have n1 := p.n1
  have n3 := p.n3
  have geto : ∀ j, j < n → ∃ o, os[j]? = some o := fun j hj => ⟨os[j]'(by rw [lo]; exact hj), List.getElem?_eq_getElem _⟩
  -- calls are let in
  have m0 : ∀ c, c < n → markAt os c 0 ≠ 0 := fun c hc => by
    obtain ⟨hh, eh⟩ := p.get hc
    have h1 := h c [] hc (p.ok c hh eh).nil
    rw [p.takes eh (by simp), p.mark0 eh] at h1
    by_cases z : c = 0
    · subst z
      have e : useRow n 0 [] = [] := rfl
      rw [e, lawTakes_nil] at h1
      exact of_decide_eq_true h1
    · have e : useRow n c [] = [1 + c, 1 + n] := by
        unfold useRow rowW
        rw [if_neg z]
        rfl
      rw [e, lawTakes_one lo (by omega) (by omega), show 1 + c - 1 = c by omega] at h1
      intro q
      rw [if_pos q] at h1
      cases h1
  have m1 : ∀ l, 1 ≤ l → l < 1 + n → markAt os 0 (stepAt os 0 0 l) ≠ 0 := fun l h1 h2 => by
    obtain ⟨hh, eh⟩ := p.get (j := 0) (by omega)
    have hm := (p.ok 0 hh eh).one l h2
    have h3 := h 0 [l] (by omega) hm
    rw [p.takes eh (by simp; omega)] at h3
    have hz := (p.hid 0 hh eh).z rfl l h1 h2
    have h4 : markH hh [l] = markH hh [] := by
      show hh.marks.getD (stepH hh 0 l) 0 = hh.marks.getD 0 0
      rw [hz]
    rw [h4, p.mark0 eh] at h3
    have e : useRow n 0 [l] = [l, 1 + n] := by
      unfold useRow rowW spreadF
      rw [if_pos rfl]
      simp [spreadS, h1]
    rw [e, lawTakes_one lo h1 h2, if_neg (m0 (l - 1) (by omega))] at h3
    exact of_decide_eq_true h3
  intro j o eo
  have hj : j < n := by
    have := (List.getElem?_eq_some_iff.mp eo).1
    rw [lo] at this
    exact this
  obtain ⟨hh, eh⟩ := p.get hj
  have lk := like j (gs j) o (gsL_at hj) eo
  have gL := (p.ok j hh eh).gL
  have oL : o.L = 1 + n := by rw [lk.L, gL]
  have same : ∀ u ∈ us j, markH o u = markH hh u := fun u hu => by
    obtain ⟨l1, l2⟩ := p.word hj hu
    have h1 := h j u hj hu
    rw [p.takes eh l1, law_use lo m0 m1 hj l1, markAt_run eo] at h1
    have h2 := mark_le lk.ok u
    have h3 := mark_le (p.hid j hh eh).ok u
    have h4 : (markH o u = 0) ↔ (markH hh u = 0) := by
      have := decide_eq_decide.mp h1
      constructor
      · intro z
        by_cases q : markH hh u = 0
        · exact q
        · exact absurd z (this.mpr q)
      · intro z
        by_cases q : markH o u = 0
        · exact q
        · exact absurd z (this.mp q)
    omega
  have o0 : o.marks[0]? = some 1 := by
    have h1 := m0 j hj
    unfold markAt at h1
    rw [eo] at h1
    simp only at h1
    rw [List.getD_eq_getElem?_getD] at h1
    cases e : o.marks[0]? with
    | none => rw [e] at h1; exact absurd rfl h1
    | some x =>
      rw [e] at h1
      have h2 := lk.ok.bits x (List.mem_of_getElem? e)
      simp only [Option.getD_some] at h1
      rw [show x = 1 by omega]
  obtain ⟨us2, g2, r1, r2⟩ := run_all (L := 1 + n) (by omega) (houses_mem lk.ok oL o0)
  have r3 := runF_like (h' := o) 9 _ _ _ (p.run j hh eh) same
  rw [r3] at r1
  simp only [Option.some.injEq, Prod.mk.injEq] at r1
  obtain ⟨rfl, rfl⟩ := r1
  exact r2.bis
theorem facts (n : Nat) (hs : List Hs) (n1 : 1 ≤ n) (n3 : n ≤ 3) (len : hs.length = n) (hid : ∀ (j : Nat) (h : Hs), hs[j]? = some h → Hid n j h) : Facts n hs := by
  obtain ⟨us, gs, p⟩ := plan_of n1 n3 len hid
  have h27 := p.few
  have w0 : Way n hs us gs ⟨[], List.replicate n (startF (1 + n)), .non⟩ us := by
    refine ⟨List.length_replicate, fun j h a e1 e2 => ?_, fun j hj => ⟨[], rfl, fun u hu => by simp at hu⟩, fun q hq => by simp at hq, List.nodup_nil⟩
    simp only at e2
    rw [List.getElem?_replicate] at e2
    split at e2
    · obtain rfl := Option.some.inj e2
      exact ⟨9, p.run j h e1⟩
    · cases e2
  obtain ⟨m, s0, rest0, c1, c2, c3, c4⟩ := settle p (sizeOf3 us + 1) _ us w0 (by omega)
  obtain ⟨t, s', rest', d1, d2, d3, d4, d5⟩ := led p 28 s0 rest0 c2 c4 (by omega)
  have hfew := d3.few
  refine ⟨3, m, t, startF (1 + n), s0, s', gsL n gs, start_some (by omega), c1, d1, by omega, d5, p.gsN, by omega, fun q hq => ?_, fun os lo like ag j o g e1 e2 => ?_⟩
  · obtain ⟨q1, j, u, hj, hu, e⟩ := d3.ans q hq
    obtain ⟨l1, l2⟩ := p.word hj hu
    rw [e]
    exact ⟨nest_use hj l1, use_len l2, by rw [← e]; exact q1.symm⟩
  · obtain ⟨hj, rfl⟩ := gsL_get e2
    refine agree p lo like (fun i u hi hu => ?_) j o e1
    obtain ⟨dn, x1, x2⟩ := d3.sub i hi
    rw [d4 i hi, List.append_nil] at x1
    have x3 := x2 u (by rw [← x1]; exact hu)
    obtain ⟨b, hb⟩ := Option.isSome_iff_exists.mp x3
    have hmem := ansOf_some hb
    have y1 := ag _ hmem
    have y2 := (d3.ans _ hmem).1
    simp only at y1 y2
    rw [y1, y2]
end
end Gr
namespace Gr
open PySem L2
/-! ### what the top has written -/
section
variable {K : PySem.W.Frag} {h : Heap} {mg : Str → Option Value} {f C : Addr} {x qual c : Str} {st : Stmt} {ps : List Str} {oc : Value} {od an : Option Addr} {osl : Array (Option Value)} {kV doc pm cdv ct : Value}
def BindsBy (x qual : Str) (st : Stmt) (ps : List Str) : Prop := ∀ (kV doc pm : Value) (an : Option Addr) (cdv ct : Value) (us : List Value), us.length = ps.length → bindArgs (PySem.W.fnOf x qual (defArgs st) (defBody st) (defScope st) .none kV doc pm an cdv ct) ⟨us, []⟩ = pure (ps.zip us)
theorem def_at (X : K.In h) (G : h.Ns mainGlobals mg) (b : BindsBy x x st ps) (a : PySem.W.nsIn K mainGlobals x = some (some (.ref f))) (l : K.lookup f = some ⟨oc, od, .func (PySem.W.fnOf x x (defArgs st) (defBody st) (defScope st) .none kV doc pm an cdv ct), osl⟩)
    (cd : PySem.W.codeIn K cdv x = true) (k : PySem.W.keepIn K (.ref f) = true) : DefAt K mg x st ps :=
  ⟨f, _, PySem.W.mg_of X G a, fun_mk (st := st) l cd k, (fun_mk (st := st) l cd k).binds b⟩
theorem meth_at (cl : Cls K C) (b : BindsBy x qual st ps) (a : PySem.W.findIn K (.ref C) x = some (some (.ref f))) (i : PySem.W.isFn K (.ref f) = true) (l : K.lookup f = some ⟨oc, od, .func (PySem.W.fnOf x qual (defArgs st) (defBody st) (defScope st) .none kV doc pm an cdv ct), osl⟩)
    (cd : PySem.W.codeIn K cdv qual = true) (k : PySem.W.keepIn K (.ref f) = true) : MethAt K C x qual st ps :=
  ⟨f, _, cl, ⟨a, i, k⟩, fun_mk (st := st) l cd k, (fun_mk (st := st) l cd k).binds b⟩
theorem init_at (hm : mg c = some (.ref C)) (mk : PySem.W.makesIn K C = true) (kc : PySem.W.keepIn K (.ref C) = true) (b : BindsBy "__init__" qual st ps) (a : PySem.W.findIn K (.ref C) "__init__" = some (some (.ref f))) (i : PySem.W.isFn K (.ref f) = true) (l : K.lookup f = some ⟨oc, od, .func (PySem.W.fnOf "__init__" qual (defArgs st) (defBody st) (defScope st) .none kV doc pm an cdv ct), osl⟩)
    (cd : PySem.W.codeIn K cdv qual = true) (k : PySem.W.keepIn K (.ref f) = true) : InitAt K mg c C qual st ps :=
  ⟨f, _, hm, ⟨mk, a, i, kc⟩, fun_mk (st := st) l cd k, (fun_mk (st := st) l cd k).binds b⟩
end
theorem fin {l : PySem.W.OpenLaw} {w : World} {K : PySem.W.Frag} {mg : Str → Option Value} {fa CB CA CC : Addr} (hfa : mg "law" = some (.ref fa)) (T : Txt K mg CB CA CC) :
    ∃ fd : FuncData, (∀ (s : Shared) (u : Value), BindsTo s fd ⟨[u], []⟩ [("script", u)]) ∧ ∀ base : Heap, K.In base → base.Ns mainGlobals mg → FnOk l.prog w K mg base CX0 14 fa fd ["script"] (spLaw K) := by
  obtain ⟨f, fd, hm, F, bb⟩ := T.law.ex
  have e := hfa.symm.trans hm
  cases e
  obtain ⟨oc, od, kV, doc, pm, an, cdv, ct, osl, e, _, _⟩ := F.ex
  refine ⟨fd, fun s v => ?_, fun base _ _ => ?_⟩
  · rw [e]
    exact .of_eq rfl
  · exact F.ok sc_law law_len fun cdv A outer s H vs Q E hr h => law_body T facts fa cdv A outer s H vs Q E hr h
theorem walk {l : PySem.W.OpenLaw} {q : Program} {loose : List Str} {XP : (Str → Option Value) → Heap → Prop} {YP : World → Heap → Prop} {d : DefRec} {K : Params → PySem.W.Frag} (hn : l.most = some 63) (hdf : d.params.defaults = [])
    (hY : ∀ (w : World) (h : Heap), YP w h → (K w.params).In h)
    (F : ∀ (w : World) (mg : Str → Option Value) (fa : Addr) (h : Heap), (K w.params).In h → h.Ns mainGlobals mg → mg d.name = some (.ref fa) →
      ∃ fd : FuncData, (∀ (s : Shared) (u : Value), BindsTo s fd ⟨[u], []⟩ [("script", u)]) ∧ ∀ base : Heap, (K w.params).In base → base.Ns mainGlobals mg → FnOk l.prog w (K w.params) mg base CX0 14 fa fd ["script"] (spLaw (K w.params))) :
    PySem.W.WalkO q loose XP YP l.row.toRowW d [] (fun f vs => PySem.call f vs) :=
  L2.walk_of (n := 63) (k := 14) (x := "script") (CX := fun _ => CX0) (sp := fun w => spLaw (K w.params)) hn (by decide) hdf ⟨rfl, by decide, by decide⟩ hY F (fun _ _ a ns hl _ hS => ⟨a, ns, rfl, hS, fun _ => rfl⟩) fun _ _ _ _ _ z => z
theorem fin3 {l : PySem.W.OpenLaw} {w : World} {K : PySem.W.Frag} {h : Heap} {mg : Str → Option Value} {fa CB CA CC : Addr} (X : K.In h) (G : h.Ns mainGlobals mg) (hfa : mg "law" = some (.ref fa))
    (aB : PySem.W.nsIn K mainGlobals "Book" = some (some (.ref CB))) (aA : PySem.W.nsIn K mainGlobals "Asker" = some (some (.ref CA))) (aC : PySem.W.nsIn K mainGlobals "CallAsker" = some (some (.ref CC)))
    (B1 : PySem.W.plainGet K CB Str.empty = true) (B2 : PySem.W.hasDictIn K CB = true) (B3 : PySem.W.plainOver K CB = true) (B4 : PySem.W.findIn K (.ref CB) "__setattr__" = some (some (.builtin "object.__setattr__")))
    (A1 : PySem.W.plainGet K CA Str.empty = true) (A2 : PySem.W.hasDictIn K CA = true) (A3 : PySem.W.plainOver K CA = true) (A4 : PySem.W.findIn K (.ref CA) "__setattr__" = some (some (.builtin "object.__setattr__")))
    (C1 : PySem.W.plainGet K CC Str.empty = true) (C2 : PySem.W.hasDictIn K CC = true) (C3 : PySem.W.plainOver K CC = true) (C4 : PySem.W.findIn K (.ref CC) "__setattr__" = some (some (.builtin "object.__setattr__")))
    (T : mg "Book" = some (.ref CB) → mg "Asker" = some (.ref CA) → mg "CallAsker" = some (.ref CC) → Cls K CB → Cls K CA → Cls K CC → Txt K mg CB CA CC) :
    ∃ fd : FuncData, (∀ (s : Shared) (u : Value), BindsTo s fd ⟨[u], []⟩ [("script", u)]) ∧ ∀ base : Heap, K.In base → base.Ns mainGlobals mg → FnOk l.prog w K mg base CX0 14 fa fd ["script"] (spLaw K) :=
  fin hfa (T (PySem.W.mg_of X G aB) (PySem.W.mg_of X G aA) (PySem.W.mg_of X G aC) ⟨B1, B2, B3, B4⟩ ⟨A1, A2, A3, A4⟩ ⟨C1, C2, C3, C4⟩)
theorem great_at {K : PySem.W.Frag} {h : Heap} {mg : Str → Option Value} {t : Tok} (X : K.In h) (G : h.Ns mainGlobals mg) (a : PySem.W.nsIn K mainGlobals "GREATEST" = some (some (.int 1000000000 t))) : ∃ t, mg "GREATEST" = some (.int 1000000000 t) := ⟨t, PySem.W.mg_of X G a⟩
theorem no_attr_at {K : PySem.W.Frag} {C : Addr} {x : Str} (a : PySem.W.findIn K (.ref C) x = some none) : NoAttr K C x := a
theorem b_is_word : BindsBy "is_word" "is_word" s_is_word ["letters", "word"] := fun _ _ _ _ _ _ us hl => match us, hl with | [_, _], _ => rfl
theorem b_look_at : BindsBy "look_at" "look_at" s_look_at ["letters", "word", "mark"] := fun _ _ _ _ _ _ us hl => match us, hl with | [_, _, _], _ => rfl
theorem b_Book_init : BindsBy "__init__" "Book.__init__" s_Book_init ["self", "letters"] := fun _ _ _ _ _ _ us hl => match us, hl with | [_, _], _ => rfl
theorem b_Book_put : BindsBy "put" "Book.put" s_Book_put ["self", "word", "mark"] := fun _ _ _ _ _ _ us hl => match us, hl with | [_, _, _], _ => rfl
theorem b_Book_told : BindsBy "told" "Book.told" s_Book_told ["self", "word"] := fun _ _ _ _ _ _ us hl => match us, hl with | [_, _], _ => rfl
theorem b_Book_heard : BindsBy "heard" "Book.heard" s_Book_heard ["self"] := fun _ _ _ _ _ _ us hl => match us, hl with | [_], _ => rfl
theorem b_trail : BindsBy "trail" "trail" s_trail ["house", "word"] := fun _ _ _ _ _ _ us hl => match us, hl with | [_, _], _ => rfl
theorem b_room_behind : BindsBy "room_behind" "room_behind" s_room_behind ["house", "word"] := fun _ _ _ _ _ _ us hl => match us, hl with | [_, _], _ => rfl
theorem b_mark_behind : BindsBy "mark_behind" "mark_behind" s_mark_behind ["house", "word"] := fun _ _ _ _ _ _ us hl => match us, hl with | [_, _], _ => rfl
theorem b_rows_of : BindsBy "rows_of" "rows_of" s_rows_of ["letters", "access"] := fun _ _ _ _ _ _ us hl => match us, hl with | [_, _], _ => rfl
theorem b_gap : BindsBy "gap" "gap" s_gap ["book", "letters", "access", "ends"] := fun _ _ _ _ _ _ us hl => match us, hl with | [_, _, _, _], _ => rfl
theorem b_marks_of : BindsBy "marks_of" "marks_of" s_marks_of ["book", "word", "ends"] := fun _ _ _ _ _ _ us hl => match us, hl with | [_, _, _], _ => rfl
theorem b_place_like : BindsBy "place_like" "place_like" s_place_like ["book", "access", "ends", "marks"] := fun _ _ _ _ _ _ us hl => match us, hl with | [_, _, _, _], _ => rfl
theorem b_stranger : BindsBy "stranger" "stranger" s_stranger ["book", "letters", "access", "ends"] := fun _ _ _ _ _ _ us hl => match us, hl with | [_, _, _, _], _ => rfl
theorem b_ways_by : BindsBy "ways_by" "ways_by" s_ways_by ["book", "letters", "access", "ends"] := fun _ _ _ _ _ _ us hl => match us, hl with | [_, _, _, _], _ => rfl
theorem b_guess_of : BindsBy "guess_of" "guess_of" s_guess_of ["book", "letters", "access", "ends"] := fun _ _ _ _ _ _ us hl => match us, hl with | [_, _, _, _], _ => rfl
theorem b_first_wrong : BindsBy "first_wrong" "first_wrong" s_first_wrong ["book", "house"] := fun _ _ _ _ _ _ us hl => match us, hl with | [_, _], _ => rfl
theorem b_Asker_init : BindsBy "__init__" "Asker.__init__" s_Asker_init ["self", "letters", "most"] := fun _ _ _ _ _ _ us hl => match us, hl with | [_, _, _], _ => rfl
theorem b_Asker_wants : BindsBy "wants" "Asker.wants" s_Asker_wants ["self"] := fun _ _ _ _ _ _ us hl => match us, hl with | [_], _ => rfl
theorem b_Asker_hear : BindsBy "hear" "Asker.hear" s_Asker_hear ["self", "mark"] := fun _ _ _ _ _ _ us hl => match us, hl with | [_, _], _ => rfl
theorem b_Asker_settle : BindsBy "settle" "Asker.settle" s_Asker_settle ["self"] := fun _ _ _ _ _ _ us hl => match us, hl with | [_], _ => rfl
theorem b_Asker_one_step : BindsBy "one_step" "Asker.one_step" s_Asker_one_step ["self"] := fun _ _ _ _ _ _ us hl => match us, hl with | [_], _ => rfl
theorem b_Asker_take_in : BindsBy "take_in" "Asker.take_in" s_Asker_take_in ["self", "word"] := fun _ _ _ _ _ _ us hl => match us, hl with | [_, _], _ => rfl
theorem b_nested : BindsBy "nested" "nested" s_nested ["plain", "helpers", "signs"] := fun _ _ _ _ _ _ us hl => match us, hl with | [_, _, _], _ => rfl
theorem b_parts : BindsBy "parts" "parts" s_parts ["plain", "helpers", "signs"] := fun _ _ _ _ _ _ us hl => match us, hl with | [_, _, _], _ => rfl
theorem b_spread : BindsBy "spread" "spread" s_spread ["plain", "helpers", "local", "rows"] := fun _ _ _ _ _ _ us hl => match us, hl with | [_, _, _, _], _ => rfl
theorem b_takes : BindsBy "takes" "takes" s_takes ["works", "signs"] := fun _ _ _ _ _ _ us hl => match us, hl with | [_, _], _ => rfl
theorem b_row_with : BindsBy "row_with" "row_with" s_row_with ["plain", "helpers", "j", "use", "within"] := fun _ _ _ _ _ _ us hl => match us, hl with | [_, _, _, _, _], _ => rfl
theorem b_use_row : BindsBy "use_row" "use_row" s_use_row ["plain", "helpers", "j", "use", "local"] := fun _ _ _ _ _ _ us hl => match us, hl with | [_, _, _, _, _], _ => rfl
theorem b_CallAsker_init : BindsBy "__init__" "CallAsker.__init__" s_CallAsker_init ["self", "plain", "helpers", "most", "uses"] := fun _ _ _ _ _ _ us hl => match us, hl with | [_, _, _, _, _], _ => rfl
theorem b_CallAsker_wants : BindsBy "wants" "CallAsker.wants" s_CallAsker_wants ["self"] := fun _ _ _ _ _ _ us hl => match us, hl with | [_], _ => rfl
theorem b_CallAsker_heard : BindsBy "heard" "CallAsker.heard" s_CallAsker_heard ["self"] := fun _ _ _ _ _ _ us hl => match us, hl with | [_], _ => rfl
theorem b_CallAsker_hear : BindsBy "hear" "CallAsker.hear" s_CallAsker_hear ["self", "taken"] := fun _ _ _ _ _ _ us hl => match us, hl with | [_, _], _ => rfl
theorem b_CallAsker_agree : BindsBy "agree" "CallAsker.agree" s_CallAsker_agree ["self"] := fun _ _ _ _ _ _ us hl => match us, hl with | [_], _ => rfl
theorem b_CallAsker_settle : BindsBy "settle" "CallAsker.settle" s_CallAsker_settle ["self"] := fun _ _ _ _ _ _ us hl => match us, hl with | [_], _ => rfl
theorem b_CallAsker_one_step : BindsBy "one_step" "CallAsker.one_step" s_CallAsker_one_step ["self"] := fun _ _ _ _ _ _ us hl => match us, hl with | [_], _ => rfl
theorem b_CallAsker_use_step : BindsBy "use_step" "CallAsker.use_step" s_CallAsker_use_step ["self"] := fun _ _ _ _ _ _ us hl => match us, hl with | [_], _ => rfl
theorem b_CallAsker_pending_step : BindsBy "pending_step" "CallAsker.pending_step" s_CallAsker_pending_step ["self"] := fun _ _ _ _ _ _ us hl => match us, hl with | [_], _ => rfl
theorem b_CallAsker_local_step : BindsBy "local_step" "CallAsker.local_step" s_CallAsker_local_step ["self", "j", "local"] := fun _ _ _ _ _ _ us hl => match us, hl with | [_, _, _], _ => rfl
theorem b_CallAsker_show_step : BindsBy "show_step" "CallAsker.show_step" s_CallAsker_show_step ["self"] := fun _ _ _ _ _ _ us hl => match us, hl with | [_], _ => rfl
theorem b_law_cell_at : BindsBy "_law_cell_at" "_law_cell_at" s_law_cell_at ["script", "k"] := fun _ _ _ _ _ _ us hl => match us, hl with | [_, _], _ => rfl
theorem b_law_houses_by : BindsBy "_law_houses_by" "_law_houses_by" s_law_houses_by ["script"] := fun _ _ _ _ _ _ us hl => match us, hl with | [_], _ => rfl
theorem b_law_takes : BindsBy "_law_takes" "_law_takes" s_law_takes ["houses", "signs"] := fun _ _ _ _ _ _ us hl => match us, hl with | [_, _], _ => rfl
theorem b_law_first_apart : BindsBy "_law_first_apart" "_law_first_apart" s_law_first_apart ["house", "other"] := fun _ _ _ _ _ _ us hl => match us, hl with | [_, _], _ => rfl
theorem b_law_objection : BindsBy "_law_objection" "_law_objection" s_law_objection ["houses", "shown"] := fun _ _ _ _ _ _ us hl => match us, hl with | [_, _], _ => rfl
theorem b_law_led : BindsBy "_law_led" "_law_led" s_law_led ["asker", "houses"] := fun _ _ _ _ _ _ us hl => match us, hl with | [_, _], _ => rfl
theorem b_law_others : BindsBy "_law_others" "_law_others" s_law_others ["houses", "script"] := fun _ _ _ _ _ _ us hl => match us, hl with | [_, _], _ => rfl
theorem b_law : BindsBy "law" "law" s_law ["script"] := fun _ _ _ _ _ _ us hl => match us, hl with | [_], _ => rfl
end Gr
open PySem PySem.W PyProof.Rows in
set_option maxRecDepth 100000 in
set_option maxHeartbeats 0 in
theorem PySem.Challenge.cw_guessroom_k87_whole_no_other_works_holds : PySem.Challenge.rw_guessroom_k87_whole_no_other_works.Holds := by
  w_on; o_law; k_head; (case hw => w_witness2)
  k_fill
  refine Gr.walk (l := PySem.Challenge.rw_guessroom_k87_whole_no_other_works) rfl rfl (fun w h Y => PySem.W.kIn_of Y) ?F
  case F =>
    intro w mg fa h KX G hmg
    refine' Gr.fin3 KX G hmg ?aB ?aA ?aC ?B1 ?B2 ?B3 ?B4 ?A1 ?A2 ?A3 ?A4 ?C1 ?C2 ?C3 ?C4 ?T
    (case aB => k_is)
    (case aA => k_is)
    (case aC => k_is)
    (case B1 => k_is)
    (case B2 => k_is)
    (case B3 => k_is)
    (case B4 => k_is)
    (case A1 => k_is)
    (case A2 => k_is)
    (case A3 => k_is)
    (case A4 => k_is)
    (case C1 => k_is)
    (case C2 => k_is)
    (case C3 => k_is)
    (case C4 => k_is)
    intro mB mA mC cB cA cC
    refine' Gr.Txt.mk ?f_is_word ?f_look_at ?f_Book_init ?f_Book_put ?f_Book_told ?f_Book_heard ?f_trail ?f_room_behind ?f_mark_behind ?f_rows_of ?f_gap ?f_marks_of ?f_place_like ?f_stranger ?f_ways_by ?f_guess_of ?f_first_wrong ?f_Asker_init ?f_Asker_wants ?f_Asker_hear ?f_Asker_settle ?f_Asker_one_step ?f_Asker_take_in ?f_nested ?f_parts ?f_spread ?f_takes ?f_row_with ?f_use_row ?f_CallAsker_init ?f_CallAsker_wants ?f_CallAsker_heard ?f_CallAsker_hear ?f_CallAsker_agree ?f_CallAsker_settle ?f_CallAsker_one_step ?f_CallAsker_use_step ?f_CallAsker_pending_step ?f_CallAsker_local_step ?f_CallAsker_show_step ?f_law_cell_at ?f_law_houses_by ?f_law_takes ?f_law_first_apart ?f_law_objection ?f_law_led ?f_law_others ?f_law ?f_c_CB ?f_n_CB_letters ?f_n_CB_marks ?f_c_CA ?f_n_CA_letters ?f_n_CA_most ?f_n_CA_book ?f_n_CA_ways ?f_n_CA_ends ?f_n_CA_hunt ?f_n_CA_wish ?f_c_CC ?f_n_CC_plain ?f_n_CC_helpers ?f_n_CC_uses ?f_n_CC_answers ?f_n_CC_askers ?f_n_CC_pending ?f_n_CC_source ?f_n_CC_wish ?f_mg_GREATEST ?f_no_len ?f_no_range ?f_no_tuple ?f_no_list ?f_no_int ?f_no_enumerate
    (case f_is_word => (refine' Gr.def_at KX G Gr.b_is_word ?a ?l ?cd ?k; (case a => k_is); (case l => k_is); (case cd => k_is); (case k => k_is)))
    (case f_look_at => (refine' Gr.def_at KX G Gr.b_look_at ?a ?l ?cd ?k; (case a => k_is); (case l => k_is); (case cd => k_is); (case k => k_is)))
    (case f_Book_init => (refine' Gr.init_at mB ?mk ?kc Gr.b_Book_init ?a ?i ?l ?cd ?k; (case mk => k_is); (case kc => k_is); (case a => k_is); (case i => k_is); (case l => k_is); (case cd => k_is); (case k => k_is)))
    (case f_Book_put => (refine' Gr.meth_at cB Gr.b_Book_put ?a ?i ?l ?cd ?k; (case a => k_is); (case i => k_is); (case l => k_is); (case cd => k_is); (case k => k_is)))
    (case f_Book_told => (refine' Gr.meth_at cB Gr.b_Book_told ?a ?i ?l ?cd ?k; (case a => k_is); (case i => k_is); (case l => k_is); (case cd => k_is); (case k => k_is)))
    (case f_Book_heard => (refine' Gr.meth_at cB Gr.b_Book_heard ?a ?i ?l ?cd ?k; (case a => k_is); (case i => k_is); (case l => k_is); (case cd => k_is); (case k => k_is)))
    (case f_trail => (refine' Gr.def_at KX G Gr.b_trail ?a ?l ?cd ?k; (case a => k_is); (case l => k_is); (case cd => k_is); (case k => k_is)))
    (case f_room_behind => (refine' Gr.def_at KX G Gr.b_room_behind ?a ?l ?cd ?k; (case a => k_is); (case l => k_is); (case cd => k_is); (case k => k_is)))
    (case f_mark_behind => (refine' Gr.def_at KX G Gr.b_mark_behind ?a ?l ?cd ?k; (case a => k_is); (case l => k_is); (case cd => k_is); (case k => k_is)))
    (case f_rows_of => (refine' Gr.def_at KX G Gr.b_rows_of ?a ?l ?cd ?k; (case a => k_is); (case l => k_is); (case cd => k_is); (case k => k_is)))
    (case f_gap => (refine' Gr.def_at KX G Gr.b_gap ?a ?l ?cd ?k; (case a => k_is); (case l => k_is); (case cd => k_is); (case k => k_is)))
    (case f_marks_of => (refine' Gr.def_at KX G Gr.b_marks_of ?a ?l ?cd ?k; (case a => k_is); (case l => k_is); (case cd => k_is); (case k => k_is)))
    (case f_place_like => (refine' Gr.def_at KX G Gr.b_place_like ?a ?l ?cd ?k; (case a => k_is); (case l => k_is); (case cd => k_is); (case k => k_is)))
    (case f_stranger => (refine' Gr.def_at KX G Gr.b_stranger ?a ?l ?cd ?k; (case a => k_is); (case l => k_is); (case cd => k_is); (case k => k_is)))
    (case f_ways_by => (refine' Gr.def_at KX G Gr.b_ways_by ?a ?l ?cd ?k; (case a => k_is); (case l => k_is); (case cd => k_is); (case k => k_is)))
    (case f_guess_of => (refine' Gr.def_at KX G Gr.b_guess_of ?a ?l ?cd ?k; (case a => k_is); (case l => k_is); (case cd => k_is); (case k => k_is)))
    (case f_first_wrong => (refine' Gr.def_at KX G Gr.b_first_wrong ?a ?l ?cd ?k; (case a => k_is); (case l => k_is); (case cd => k_is); (case k => k_is)))
    (case f_Asker_init => (refine' Gr.init_at mA ?mk ?kc Gr.b_Asker_init ?a ?i ?l ?cd ?k; (case mk => k_is); (case kc => k_is); (case a => k_is); (case i => k_is); (case l => k_is); (case cd => k_is); (case k => k_is)))
    (case f_Asker_wants => (refine' Gr.meth_at cA Gr.b_Asker_wants ?a ?i ?l ?cd ?k; (case a => k_is); (case i => k_is); (case l => k_is); (case cd => k_is); (case k => k_is)))
    (case f_Asker_hear => (refine' Gr.meth_at cA Gr.b_Asker_hear ?a ?i ?l ?cd ?k; (case a => k_is); (case i => k_is); (case l => k_is); (case cd => k_is); (case k => k_is)))
    (case f_Asker_settle => (refine' Gr.meth_at cA Gr.b_Asker_settle ?a ?i ?l ?cd ?k; (case a => k_is); (case i => k_is); (case l => k_is); (case cd => k_is); (case k => k_is)))
    (case f_Asker_one_step => (refine' Gr.meth_at cA Gr.b_Asker_one_step ?a ?i ?l ?cd ?k; (case a => k_is); (case i => k_is); (case l => k_is); (case cd => k_is); (case k => k_is)))
    (case f_Asker_take_in => (refine' Gr.meth_at cA Gr.b_Asker_take_in ?a ?i ?l ?cd ?k; (case a => k_is); (case i => k_is); (case l => k_is); (case cd => k_is); (case k => k_is)))
    (case f_nested => (refine' Gr.def_at KX G Gr.b_nested ?a ?l ?cd ?k; (case a => k_is); (case l => k_is); (case cd => k_is); (case k => k_is)))
    (case f_parts => (refine' Gr.def_at KX G Gr.b_parts ?a ?l ?cd ?k; (case a => k_is); (case l => k_is); (case cd => k_is); (case k => k_is)))
    (case f_spread => (refine' Gr.def_at KX G Gr.b_spread ?a ?l ?cd ?k; (case a => k_is); (case l => k_is); (case cd => k_is); (case k => k_is)))
    (case f_takes => (refine' Gr.def_at KX G Gr.b_takes ?a ?l ?cd ?k; (case a => k_is); (case l => k_is); (case cd => k_is); (case k => k_is)))
    (case f_row_with => (refine' Gr.def_at KX G Gr.b_row_with ?a ?l ?cd ?k; (case a => k_is); (case l => k_is); (case cd => k_is); (case k => k_is)))
    (case f_use_row => (refine' Gr.def_at KX G Gr.b_use_row ?a ?l ?cd ?k; (case a => k_is); (case l => k_is); (case cd => k_is); (case k => k_is)))
    (case f_CallAsker_init => (refine' Gr.init_at mC ?mk ?kc Gr.b_CallAsker_init ?a ?i ?l ?cd ?k; (case mk => k_is); (case kc => k_is); (case a => k_is); (case i => k_is); (case l => k_is); (case cd => k_is); (case k => k_is)))
    (case f_CallAsker_wants => (refine' Gr.meth_at cC Gr.b_CallAsker_wants ?a ?i ?l ?cd ?k; (case a => k_is); (case i => k_is); (case l => k_is); (case cd => k_is); (case k => k_is)))
    (case f_CallAsker_heard => (refine' Gr.meth_at cC Gr.b_CallAsker_heard ?a ?i ?l ?cd ?k; (case a => k_is); (case i => k_is); (case l => k_is); (case cd => k_is); (case k => k_is)))
    (case f_CallAsker_hear => (refine' Gr.meth_at cC Gr.b_CallAsker_hear ?a ?i ?l ?cd ?k; (case a => k_is); (case i => k_is); (case l => k_is); (case cd => k_is); (case k => k_is)))
    (case f_CallAsker_agree => (refine' Gr.meth_at cC Gr.b_CallAsker_agree ?a ?i ?l ?cd ?k; (case a => k_is); (case i => k_is); (case l => k_is); (case cd => k_is); (case k => k_is)))
    (case f_CallAsker_settle => (refine' Gr.meth_at cC Gr.b_CallAsker_settle ?a ?i ?l ?cd ?k; (case a => k_is); (case i => k_is); (case l => k_is); (case cd => k_is); (case k => k_is)))
    (case f_CallAsker_one_step => (refine' Gr.meth_at cC Gr.b_CallAsker_one_step ?a ?i ?l ?cd ?k; (case a => k_is); (case i => k_is); (case l => k_is); (case cd => k_is); (case k => k_is)))
    (case f_CallAsker_use_step => (refine' Gr.meth_at cC Gr.b_CallAsker_use_step ?a ?i ?l ?cd ?k; (case a => k_is); (case i => k_is); (case l => k_is); (case cd => k_is); (case k => k_is)))
    (case f_CallAsker_pending_step => (refine' Gr.meth_at cC Gr.b_CallAsker_pending_step ?a ?i ?l ?cd ?k; (case a => k_is); (case i => k_is); (case l => k_is); (case cd => k_is); (case k => k_is)))
    (case f_CallAsker_local_step => (refine' Gr.meth_at cC Gr.b_CallAsker_local_step ?a ?i ?l ?cd ?k; (case a => k_is); (case i => k_is); (case l => k_is); (case cd => k_is); (case k => k_is)))
    (case f_CallAsker_show_step => (refine' Gr.meth_at cC Gr.b_CallAsker_show_step ?a ?i ?l ?cd ?k; (case a => k_is); (case i => k_is); (case l => k_is); (case cd => k_is); (case k => k_is)))
    (case f_law_cell_at => (refine' Gr.def_at KX G Gr.b_law_cell_at ?a ?l ?cd ?k; (case a => k_is); (case l => k_is); (case cd => k_is); (case k => k_is)))
    (case f_law_houses_by => (refine' Gr.def_at KX G Gr.b_law_houses_by ?a ?l ?cd ?k; (case a => k_is); (case l => k_is); (case cd => k_is); (case k => k_is)))
    (case f_law_takes => (refine' Gr.def_at KX G Gr.b_law_takes ?a ?l ?cd ?k; (case a => k_is); (case l => k_is); (case cd => k_is); (case k => k_is)))
    (case f_law_first_apart => (refine' Gr.def_at KX G Gr.b_law_first_apart ?a ?l ?cd ?k; (case a => k_is); (case l => k_is); (case cd => k_is); (case k => k_is)))
    (case f_law_objection => (refine' Gr.def_at KX G Gr.b_law_objection ?a ?l ?cd ?k; (case a => k_is); (case l => k_is); (case cd => k_is); (case k => k_is)))
    (case f_law_led => (refine' Gr.def_at KX G Gr.b_law_led ?a ?l ?cd ?k; (case a => k_is); (case l => k_is); (case cd => k_is); (case k => k_is)))
    (case f_law_others => (refine' Gr.def_at KX G Gr.b_law_others ?a ?l ?cd ?k; (case a => k_is); (case l => k_is); (case cd => k_is); (case k => k_is)))
    (case f_law => (refine' Gr.def_at KX G Gr.b_law ?a ?l ?cd ?k; (case a => k_is); (case l => k_is); (case cd => k_is); (case k => k_is)))
    (case f_c_CB => exact cB)
    (case f_n_CB_letters => (refine' Gr.no_attr_at ?a; (case a => k_is)))
    (case f_n_CB_marks => (refine' Gr.no_attr_at ?a; (case a => k_is)))
    (case f_c_CA => exact cA)
    (case f_n_CA_letters => (refine' Gr.no_attr_at ?a; (case a => k_is)))
    (case f_n_CA_most => (refine' Gr.no_attr_at ?a; (case a => k_is)))
    (case f_n_CA_book => (refine' Gr.no_attr_at ?a; (case a => k_is)))
    (case f_n_CA_ways => (refine' Gr.no_attr_at ?a; (case a => k_is)))
    (case f_n_CA_ends => (refine' Gr.no_attr_at ?a; (case a => k_is)))
    (case f_n_CA_hunt => (refine' Gr.no_attr_at ?a; (case a => k_is)))
    (case f_n_CA_wish => (refine' Gr.no_attr_at ?a; (case a => k_is)))
    (case f_c_CC => exact cC)
    (case f_n_CC_plain => (refine' Gr.no_attr_at ?a; (case a => k_is)))
    (case f_n_CC_helpers => (refine' Gr.no_attr_at ?a; (case a => k_is)))
    (case f_n_CC_uses => (refine' Gr.no_attr_at ?a; (case a => k_is)))
    (case f_n_CC_answers => (refine' Gr.no_attr_at ?a; (case a => k_is)))
    (case f_n_CC_askers => (refine' Gr.no_attr_at ?a; (case a => k_is)))
    (case f_n_CC_pending => (refine' Gr.no_attr_at ?a; (case a => k_is)))
    (case f_n_CC_source => (refine' Gr.no_attr_at ?a; (case a => k_is)))
    (case f_n_CC_wish => (refine' Gr.no_attr_at ?a; (case a => k_is)))
    (case f_mg_GREATEST => (refine' Gr.great_at KX G ?a; (case a => k_is)))
    (case f_no_len => (refine' PySem.W.mg_none_of KX G ?a; (case a => k_is)))
    (case f_no_range => (refine' PySem.W.mg_none_of KX G ?a; (case a => k_is)))
    (case f_no_tuple => (refine' PySem.W.mg_none_of KX G ?a; (case a => k_is)))
    (case f_no_list => (refine' PySem.W.mg_none_of KX G ?a; (case a => k_is)))
    (case f_no_int => (refine' PySem.W.mg_none_of KX G ?a; (case a => k_is)))
    (case f_no_enumerate => (refine' PySem.W.mg_none_of KX G ?a; (case a => k_is)))
