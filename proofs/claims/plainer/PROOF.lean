import PyProof.Rows.All
import HandS.ForMost
import Wide.All
import OpenK.AllK
import Wide.FinOn
import KE.KUnpackStar
import HandS.More
import HandS.Defaults
import KE.KDictPairs
import PyProof.AutoSeq1
import HandS.SortKw
import HandS.Iter
import HandS.Walk
import KE.DatumOrd
import KE.GoesZip
import KE.GoesMore
import PyProof.NeKinds
import PyProof.ReprRoads
import HandS.DictTup
import HandS.ListItems
import HandS.SortRule
import HandS.Zip
import HandS.SetFor
import HandS.Strs
import KE.KStateDown
import HandS.Head0
import HandS.Head1
import HandS.Head2
import HandS.HeadEnd
import HandS.HeadHook1
import HandS.HeadHook2
import HandS.HeadHook3
import HandS.HeadHook4
import PySem.Str
import HandS.TupAny
import HandS.Style
import HandS.NoneIn
import HandS.SetKeys
import HandS.CallLocal
import PyProof.ReprBulk
import PyProof.ReprLen
import HandS.MakeKwOnly
import PySem.Challenge.RW_cellpacts_k14_whole_plainer
-- ## PkText
set_option Elab.async false
set_option linter.all false
set_option maxRecDepth 100000
set_option maxHeartbeats 0
/-! The text by places. -/
namespace Pk
open PySem PySem.Spec PyProof.Rows L2
def top (i : Nat) : Stmt := PySem.Challenge.pw_cellpacts_k14_whole_plainer.main.body.getD i (.Pass ⟨0, 0, 0, 0⟩)
abbrev s_has_own : Stmt := top 1
abbrev s_steps_for : Stmt := top 2
abbrev s_plainer : Stmt := top 3
abbrev s_reckoned : Stmt := top 5
abbrev s_parts_of : Stmt := top 10
abbrev s_all_steps : Stmt := top 11
abbrev s_depth : Stmt := top 12
abbrev s_fits : Stmt := top 13
abbrev s_do_read : Stmt := top 16
abbrev s_do_write : Stmt := top 17
abbrev s_do_let : Stmt := top 18
abbrev s_do_tell : Stmt := top 19
abbrev s_do_if : Stmt := top 20
abbrev s_do_inner : Stmt := top 21
abbrev s_do_either : Stmt := top 22
abbrev s_do_out : Stmt := top 23
abbrev s_do_retry : Stmt := top 24
abbrev s_walked : Stmt := top 27
abbrev s_law_feed : Stmt := top 29
abbrev s_law_draw : Stmt := top 30
abbrev s_law_names : Stmt := top 31
abbrev s_law_number : Stmt := top 32
abbrev s_law_sum : Stmt := top 33
abbrev s_law_step : Stmt := top 34
abbrev s_law_program : Stmt := top 35
abbrev s_law_scene : Stmt := top 36
abbrev s_law_any : Stmt := top 37
abbrev s_law_own : Stmt := top 38
abbrev s_law_place : Stmt := top 39
abbrev s_law_turned : Stmt := top 40
abbrev s_law_due : Stmt := top 41
abbrev s_law_count : Stmt := top 42
abbrev s_law_fixed_ifs : Stmt := top 43
abbrev s_law_right : Stmt := top 44
abbrev s_law : Stmt := top 45
abbrev sw_init : Stmt := inClass (top 15) 0
abbrev sw_kept : Stmt := inClass (top 15) 1
abbrev sw_back_to : Stmt := inClass (top 15) 2
abbrev sw_seen : Stmt := inClass (top 15) 3
abbrev sw_go : Stmt := inClass (top 15) 4
end Pk
-- ## PkRules
set_option Elab.async false
set_option linter.all false
set_option maxRecDepth 100000
set_option maxHeartbeats 2000000
/-! Rules that the layer lacks. -/
namespace Pk
open PySem PySem.Spec PyProof.Rows L2

/-! ### x, *y = a tuple -/
section
variable {prog : Program} {w : World} {A : Around} {E : Value → Shared → Prop} {s : Shared} {a : Addr} {u : Value} {us : List Value}
theorem star_items {Q : List Value → Shared → Prop} (ht : IsTup s.heap a (u :: us).toArray) (hh : A.handled = none) (hz : us.length + 1 ≤ 16000)
    (h : ∀ (g : Heap) (tk : Nat), (∀ b o, s.heap.get? b = some o → g.get? b = some o) → Q [u, .ref g.objs.size] { s with heap := g.push { cls := .type "list", data := .seq us.toArray }, toks := tk }) :
    wpAny (model prog w) A (unpackItems (.ref a) 2 (some 1)) Q E s := by
  have al : a < s.heap.objs.size := ht.lt
  have an : a ≠ s.heap.objs.size := Nat.ne_of_lt al
  unfold unpackItems
  refine wpAny_bind ?_
  unfold notIterableAtAll
  refine wpAny_bind (wpAny_specialOf ht.typeIs slot_tuple_iter.lookup ?_)
  refine wpAny_pure ?_
  simp only [Bool.false_eq_true, if_false]
  refine wpAny_bind (wpAny_holding (iter_tuple ht ?_))
  refine wpAny_bind (wpAny_holding (draw_tuple an 1 0 _ _ ⟨_, Heap.get?_push_size _ rfl, rfl, rfl⟩ (ht.push _) (by simp) fun g1 it1 sb1 => ?_))
  have tp1 : IsTup g1 a (u :: us).toArray := (ht.push _).extBut sb1.extBut an
  obtain ⟨oi, hoi, ci⟩ := id it1
  obtain ⟨ot, hot, ct⟩ := id tp1
  show wpAny _ _ (if ([u] : List Value).length < 1 then _ else _) _ _ _
  rw [if_neg (by simp)]
  refine wpAny_bind (wpAny_holding (PySem.W.kun_collect (s := { s with heap := g1 }) (T := "tuple_iterator") (.inr (.inr (.inr rfl))) (Walks.tuple (A := A.in1) hh s.heap.objs.size a an (u :: us).toArray) (fun j v st => st.1.typeIs) (k := 1) (by simp) ⟨it1, tp1⟩ (Heap.lt_size hoi) (Heap.lt_size hot) (fun g2 tk k2 => ?_) (by rw [sizeLine_eq]; simp; omega)))
  have e1 : ((u :: us).toArray.toList.drop 1) = us := rfl
  rw [e1]
  show wpAny _ _ (if us.length < 0 then _ else _) _ _ _
  rw [if_neg (by omega)]
  refine wpAny_bind (wpAny_newList ?_ (by rw [sizeLine_eq, List.length_take]; omega))
  refine wpAny_pure ?_
  have et : us.take (us.length - 0) = us := List.take_of_length_le (by omega)
  have ed : us.drop (us.length - 0) = [] := List.drop_eq_nil_of_le (by omega)
  show Q ([u] ++ [Value.ref g2.objs.size] ++ us.drop (us.length - 0)) _
  rw [et, ed]
  have sz1 : g1.objs.size = s.heap.objs.size + 1 := by rw [sb1.1, Heap.size_push]
  have keep : ∀ b o, s.heap.get? b = some o → g2.get? b = some o := fun b o e => by
    have nb : b ≠ s.heap.objs.size := Nat.ne_of_lt (Heap.lt_size e)
    exact k2 b o nb ((sb1.2 b nb).trans (Heap.get?_push_of_some _ e))
  exact h g2 tk keep
/-- the first item, a new list of the others -/
def gStar (K : PySem.W.Frag) (t : TGs) : TG := fun v σ H Q => ∃ a x xs, v = .ref a ∧ SqT K H a (x :: xs) ∧ xs.length ≤ 1000 ∧ ∀ p, H p = none → t [x, .ref p] σ (upd H p (.lst xs)) Q
theorem pg_star {X : Cx} {es : List Expr} {k : Nat} {pos : Pos} {t : TGs} (hc : X.calm = true) (h : PGs X es t)
    (hn : (assignEach es X.env).length = 2 := by rfl) (hst : (assignEach es X.env).findIdx? (·.1) = some 1 := by rfl) : PG X (.Tuple es k pos) (gStar X.K t) := by
  refine ⟨fun pins s σ H v u Q I r hw => ?_⟩
  obtain ⟨a, x, xs, e1, hq, hl, hw⟩ := hw
  subst e1
  cases r
  obtain ⟨its, rv, ht, hz⟩ := I.tuple hq
  cases rv with
  | cons rx rxs =>
    rename_i ux uxs
    have hlen := Vals.length rxs
    rw [assign_Tuple]
    refine wpAny_bind (wpAny_standAt ?_)
    unfold unpack
    rw [hn, hst]
    refine wpAny_bind (wpAny_holding (star_items ht (I.ok.hd hc) (by omega) fun g tk kp => ?_))
    have I1 : Inv X pins σ H { s with heap := g } := I.kept (t' := s.toks) kp
    have hf : H g.objs.size = none := I1.hok.fresh (Nat.le_refl _)
    have I2 : Inv X pins σ (upd H g.objs.size (.lst xs)) { s with heap := g.push { cls := .type "list", data := .seq uxs.toArray }, toks := tk } :=
      I1.laid (a := g.objs.size) (o := .lst xs) (t' := tk) (fun b o e => Heap.get?_push_of_some _ e) (Nat.le_refl _) ⟨by rw [sizeLine_eq]; omega, uxs, 0, rxs, Heap.get?_push_size _ rfl⟩
    exact h.run pins _ σ _ [x, .ref g.objs.size] _ Q I2 (.cons rx (.cons rfl .nil)) (hw _ hf)
/-- the starred name -/
theorem pgs_star {X : Cx} {e : Expr} {p : Pos} {t : TG} (h1 : PG X e t) (hs : (assignEach [.Starred e p] X.env).map (·.2) = [assign e X.env] := by rfl) : PGs X [.Starred e p] (gCons t gNil) := by
  refine ⟨fun pins s σ H vs us Q I r h => ?_⟩
  obtain ⟨v, vr, e1, h⟩ := h
  subst e1
  cases r with
  | cons r rr =>
    rw [hs]
    refine assignInOrder_cons (thn (h1.run pins s σ H _ _ _ I r h) fun _ s1 ⟨σ1, H1, I1, q1⟩ => ?_)
    obtain ⟨e2, q1⟩ := q1
    subst e2
    cases rr
    exact assignInOrder_nil ⟨σ1, H1, I1, q1⟩
end
end Pk
-- ## PkRules2
set_option Elab.async false
set_option linter.all false
set_option maxRecDepth 100000
set_option maxHeartbeats 2000000
namespace Pk
open PySem PySem.Spec PyProof.Rows L2

/-! ### an attribute as one of several targets -/
def gFld (K : PySem.W.Frag) (ta : TE) (f : Str) : TG := fun v σ H Q => ta σ H fun x H1 => ∃ a C dx fs, x = .ref a ∧ H1 a = some (.ins C dx fs) ∧ Cls K C ∧ NoAttr K C f ∧ fs.length < 1000 ∧ Q σ (upd H1 a (.ins C dx (putF f v fs)))
theorem pg_fld {X : Cx} {o : Expr} {f : Str} {pos : Pos} {ta : TE} (ha : PE X o ta) : PG X (.Attribute o f pos) (gFld X.K ta f) := by
  refine ⟨fun pins s σ H v u Q I r h => ?_⟩
  rw [assign_Attribute]
  refine wpAny_bind (wpAny_holding (thn (ha.run pins s σ H _ I h) fun ov s1 ⟨x, H1, I1, rx, a, C, dx, fs, ex, ea, c, n, l, q⟩ => ?_))
  subst ex
  obtain rfl : ov = Value.ref a := rx
  refine wpAny_bind (wpAny_standAt (wpAny_bind (wpAny_holding ?_)))
  exact setattr_ok I1 ea c n l r fun s2 I2 => wpAny_release ⟨σ, _, I2, q⟩

/-! ### xs.extend(t), t a tuple -/
theorem extend_tup (l : Addr) (items : Array Value) (n : Nat) (b : Addr) (items2 : Array Value) (n2 : Nat) (dct : Option Addr) (sl : Array (Option Value)) (h0 : ¬(!items.isEmpty && Builtin.List.listTooLong (items.size + items2.size)) = true) (h1 : items.size ≤ sizeLine) (h2 : items.size + items2.size ≤ sizeLine + 1) :
    Meets (Builtin.«list.extend» ⟨[.ref l, .ref b], []⟩) (fun _ R s => s.heap.get? l = some { cls := .type "list", dict := none, data := .seq items n, slots := #[] } ∧ s.heap.get? b = some { cls := .type "tuple", dict := dct, data := .seq items2 n2, slots := sl } ∧
      R (.ok (.ret Value.none)) { s with heap := s.heap.update l (Obj.mapSeq fun x => x ++ items2), toks := s.toks }) :=
  .of_wp fun prog w A R s h => by
    obtain ⟨hp, g, d, tk, os⟩ := s
    obtain ⟨hl, hb, h⟩ := h
    have f1 := AutoSeq1.idx_int
    have f2 := AutoSeq1.sub_tuple_tuple
    have f3 := AutoSeq1.sub_list_list
    have f4 := AutoSeq1.sub_tuple_list
    have f5 := AutoSeq1.sub_list_tuple
    have hz' : (items ++ items2).size ≤ sizeLine + 1 := by
      rw [Array.size_append]
      exact h2
    wp_walk using (wpAny_updateSeq hl rfl (hz := h1) (_hz' := hz')), AutoSeq1.wpAny_loadPart' hl, AutoSeq1.wpAny_loadPart' hb
    exact ⟨_, rfl, h⟩
def rExtendT (K : PySem.W.Frag) : V → List V → Hp → VK → Prop := fun x vs H Q => ∃ l b xs zs, x = .ref l ∧ vs = [.ref b] ∧ H l = some (.lst xs) ∧ SqT K H b zs ∧ xs.length + zs.length ≤ sizeLine ∧ Q .non (upd H l (.lst (xs ++ zs)))
theorem mt_extendT {X : Cx} : MtM X "list.extend" (rExtendT X.K) := by
  intro pins s σ H x vs v us Q I rx rv h
  obtain ⟨l, b, xs, zs, rfl, rfl, hH, hB, hz, q⟩ := h
  cases rx
  obtain ⟨u, rfl, ru⟩ := rv.one
  cases ru
  obtain ⟨z, its, n, r, hl, e⟩ := I.lstM hH
  obtain ⟨its2, r2, ⟨o, ho, hc, n2, hd⟩, _⟩ := I.tuple hB
  have hl2 := r2.length
  obtain ⟨oc, od, dt, sl⟩ := o
  obtain rfl : oc = .type "tuple" := hc
  obtain rfl : dt = .seq its2.toArray n2 := hd
  have hsz : its.toArray.size + its2.toArray.size ≤ sizeLine := by
    rw [List.size_toArray, List.size_toArray]
    omega
  have hlong : ¬ (!its.toArray.isEmpty && Builtin.List.listTooLong (its.toArray.size + its2.toArray.size)) = true := by
    rw [notLongL hsz, Bool.and_false]
    exact Bool.false_ne_true
  refine call_meets F.slot_list_extend ⟨_, e, rfl⟩ F.entry_list_extend (F.args_list_extend_2 _ _)
    (extend_tup l its.toArray n b its2.toArray n2 od sl hlong (by rw [List.size_toArray]; omega) (by omega)) ⟨e, ho, ?_⟩
  refine ⟨.non, _, I.lset (its' := its ++ its2) hH e (by simp) (r.append r2) ?_, rfl, q⟩
  rw [List.length_append]
  omega

/-! ### a tuple whose object is known (it has no dict of its own): tuple(xs), dict(t) -/
def TupD (K : PySem.W.Frag) (H : Hp) (a : Addr) (xs : List V) : Prop :=
  (∃ o, H a = some (.frz o (.tup xs)) ∧ o.dict = none) ∨
    ∃ (o : Obj) (its : Array Value) (n : Nat), K.lookup a = some o ∧ o.dict = none ∧ o.cls = .type "tuple" ∧ o.data = .seq its n ∧ its.size ≤ sizeLine ∧ Vals xs its.toList
theorem TupD.sqT {K : PySem.W.Frag} {H : Hp} {a : Addr} {xs : List V} (h : TupD K H a xs) : SqT K H a xs := by
  rcases h with ⟨o, h, _⟩ | ⟨o, its, n, h1, _, h3, h4, h5, h6⟩
  · exact .inl (.inr ⟨o, h⟩)
  · exact .inr ⟨o, its, n, h1, h3, h4, h5, h6⟩
section
variable {X : Cx}
theorem call_tupleF : CallR X (.type "tuple") (fun xs H Q => ∃ p ys, xs = [.ref p] ∧ SqL X.K H p ys ∧ ∀ l o, H l = none → o.dict = none → Q (.ref l) (upd H l (.frz o (.tup ys)))) := by
  intro pins s σ H xs us Q I r h
  obtain ⟨p, ys, rfl, hq, q⟩ := h
  obtain ⟨u, rfl, rx⟩ := vals1 r
  cases rx
  obtain ⟨its, r', pl, hz⟩ := I.list hq
  have hlen := r'.length
  refine call_tuple_list pl.isList (fun g kp => ?_) (by simp only [List.size_toArray]; omega)
  have I1 : Inv X pins σ H { s with heap := g } := I.kept (t' := s.toks) kp
  have I2 : Inv X pins σ (upd H g.objs.size (.frz { cls := .type "tuple", data := .seq its.toArray } (.tup ys))) { s with heap := g.push { cls := .type "tuple", data := .seq its.toArray } } :=
    I1.laid (t' := s.toks) (fun b o e => Heap.get?_push_of_some _ e) (Nat.le_refl _)
      (show ObjOk X.prog X.w _ _ _ (.frz _ (.tup ys)) from ⟨Heap.get?_push_size _ rfl, hz, its, r', IsTup.new _ _⟩)
  exact ⟨.ref g.objs.size, _, I2, rfl, q _ _ (I1.hok.fresh (Nat.le_refl _)) rfl⟩
theorem keyIs_of {k : Key} {v : Value} (r : RelV (kV k) v) : keyIs k v = true := by
  cases k with
  | inl i => obtain ⟨t, rfl⟩ := r; exact keyIs_int i t
  | inr x => obtain ⟨t, rfl⟩ := r; exact keyIs_str x t
theorem pairs_at {pins : List (Addr × Obj)} {σ : L2.St} {H : Hp} {s : Shared} (I : Inv X pins σ H s) : ∀ {ps : List Addr} {kvs : List (Key × V)}, Paired (fun p kv => SqT X.K H p [kV kv.1, kv.2]) ps kvs →
    ∃ prs : List (Value × Value), ∃ kus : List (Key × Value), KV kvs kus ∧ prs.length = ps.length ∧ kus.length = ps.length ∧ ∀ (j : Nat) (q : Value × Value), prs[j]? = some q → ∃ (b : Addr) (k : Key), ps[j]? = some b ∧ IsTup s.heap b #[q.1, q.2] ∧ kus[j]? = some (k, q.2) ∧ keyIs k q.1 = true
  | _, _, .nil => ⟨[], [], .nil, rfl, rfl, fun j q e => by simp at e⟩
  | _, _, .cons (a := p) (b := kv) h t => by
    obtain ⟨prs, kus, r, l1, l2, hp⟩ := pairs_at I t
    obtain ⟨its, rv, ht, _⟩ := I.tuple h
    obtain ⟨u, y, ei, ru, ry⟩ := vals2 rv
    subst ei
    refine ⟨(u, y) :: prs, (kv.1, y) :: kus, .cons ⟨rfl, ry⟩ r, by simp [l1], by simp [l2], fun j q e => ?_⟩
    cases j with
    | zero =>
      have e' : (u, y) = q := Option.some.inj e
      subst e'
      exact ⟨p, kv.1, rfl, ht, rfl, keyIs_of ru⟩
    | succ j =>
      obtain ⟨b, k, e1, e2, e3, e4⟩ := hp j q (by simpa using e)
      exact ⟨b, k, by simpa using e1, e2, by simpa using e3, e4⟩
theorem dict_tup_raw {prog : Program} {w : World} {A : Around} {E : Value → Shared → Prop} {s : Shared} {a : Addr} {o : Obj} {n : Nat} {ps : List Addr} {prs : List (Value × Value)} {kus : List (Key × Value)} {Q : Value → Shared → Prop}
    (hh : A.handled = none) (ho : s.heap.get? a = some o) (hc : o.cls = .type "tuple") (hd : o.dict = none) (hdat : o.data = .seq (ps.map Value.ref).toArray n) (l1 : prs.length = ps.length) (l2 : kus.length = ps.length) (hz : ps.length ≤ sizeLine)
    (hp : ∀ (j : Nat) (q : Value × Value), prs[j]? = some q → ∃ (b : Addr) (k : Key), ps[j]? = some b ∧ IsTup s.heap b #[q.1, q.2] ∧ kus[j]? = some (k, q.2) ∧ keyIs k q.1 = true)
    (h : ∀ h' tk, h'.DictOf (mixKind prog w) s.heap.objs.size (merged [] kus) → (∀ b o, s.heap.get? b = some o → h'.get? b = some o) → Q (.ref s.heap.objs.size) { s with heap := h', toks := tk }) :
    wpAny (model prog w) A (call (.type "dict") [.ref a]) Q E s := by
  refine PySem.call_dict_pairs (knd := mixKind prog w) (kvs := kus) (PairArg.tuple a (ps.map Value.ref).toArray (fun j => ps.getD j 0) prs) hh ⟨⟨o, n, ho, hc, hd, hdat⟩, by simp [l1], fun j k v e => ?_⟩ ⟨by omega, fun i k v e => ?_⟩ (by omega) fun h' tk hd' kk => h h' tk hd' fun b o e => kk b o (by simp) e
  · obtain ⟨b, k', e1, e2, _⟩ := hp j (k, v) e
    refine ⟨by simp [e1, List.getD], ?_⟩
    have e3 : ps.getD j 0 = b := by simp [List.getD, e1]
    show PairAt s.heap (ps.getD j 0) k v
    rw [e3]
    exact .inl e2
  · obtain ⟨b, k', _, _, e3, e4⟩ := hp i (k, v) e
    exact ⟨k', e3, e4⟩
/-- dict(t), t a tuple of pairs -/
theorem call_dictT (hcalm : X.calm = true) : CallR X (.type "dict") (fun xs H Q => ∃ (a : Addr) (ps : List Addr) (kvs : List (Key × V)), xs = [.ref a] ∧ TupD X.K H a (ps.map V.ref) ∧ Paired (fun p kv => SqT X.K H p [kV kv.1, kv.2]) ps kvs ∧
    ∀ p, H p = none → Q (.ref p) (upd H p (.dK (mergeK [] kvs)))) := by
  intro pins s σ H xs us Q I r q
  obtain ⟨a, ps, kvs, ex, hq, hp, q⟩ := q
  subst ex
  obtain ⟨u, eu, rx⟩ := vals1 r
  subst eu
  cases rx
  obtain ⟨o, n, ho, hc, hd, hdat, hz⟩ : ∃ o n, s.heap.get? a = some o ∧ o.cls = .type "tuple" ∧ o.dict = none ∧ o.data = .seq (ps.map Value.ref).toArray n ∧ ps.length ≤ sizeLine := by
    rcases hq with ⟨o, h, hd⟩ | ⟨o, its, n, h1, h2, h3, h4, h5, h6⟩
    · obtain ⟨e, hz, its, rv, ob, e2, hc, n, hdat⟩ := I.hok a _ h
      rw [e] at e2
      cases e2
      rw [refs_at rv] at hdat
      exact ⟨o, n, e, hc, hd, hdat, by simpa using hz⟩
    · have e := refs_at h6
      have e2 : its = (ps.map Value.ref).toArray := by rw [← e]
      subst e2
      exact ⟨o, n, I.kIn a o h1, h3, h2, h4, by simpa using h5⟩
  obtain ⟨prs, kus, rel, l1, l2, hpr⟩ := pairs_at I hp
  refine dict_tup_raw (I.ok.hd hcalm) ho hc hd hdat l1 l2 hz hpr fun h' tk hd' k => ?_
  have hm : (s.heap.objs.size == sysModules) = false := beq_eq_false_iff_ne.mpr (Nat.ne_of_gt I.big)
  have hlen : (mergeK [] kvs).length ≤ sizeLine := by
    refine Nat.le_trans (length_mergeK kvs []) ?_
    rw [List.length_nil, Nat.zero_add, rel.length, l2]
    exact hz
  exact ⟨.ref s.heap.objs.size, upd H s.heap.objs.size (.dK (mergeK [] kvs)), I.laid (t' := tk) k (Nat.le_refl _) (show ObjOk X.prog X.w _ _ _ (.dK (mergeK [] kvs)) from ⟨hlen, hm, merged [] kus, KV.merge rel .nil, hd'⟩), rfl, q _ (I.hok.fresh (Nat.le_refl _))⟩
end
end Pk
-- ## PkRules3
set_option Elab.async false
set_option linter.all false
set_option maxRecDepth 100000
set_option maxHeartbeats 2000000
namespace Pk
open PySem PySem.Spec PyProof.Rows L2

section
variable {X : Cx}
/-! ### t != (), xs != [] -/
def rNe0T (K : PySem.W.Frag) : R2 := fun x y H Q => ∃ a b xs, x = .ref a ∧ y = .ref b ∧ SqT K H a xs ∧ SqT K H b [] ∧ Q (.bl (!xs.isEmpty)) H
theorem op_ne0T (hu : X.A.units < cLine) : OpR X (compareOp .NotEq) (rNe0T X.K) := by
  intro pins s σ H x y v u Q I rx ry h
  obtain ⟨a, b, xs, rfl, rfl, ha, hb, q⟩ := h
  cases rx
  cases ry
  obtain ⟨its, rv, ⟨o, ho, hc, n, hd⟩, _⟩ := I.tuple ha
  obtain ⟨its2, rv2, ⟨o2, ho2, hc2, n2, hd2⟩, _⟩ := I.tuple hb
  cases rv2
  refine SeqAt.RcNeAt.tuples (e := fun _ => true) (items := its.toArray) (items2 := [].toArray) ⟨o, ho, hc, n, hd⟩ ⟨o2, ho2, hc2, n2, hd2⟩ hu (fun j h1 h2 => absurd h2 (Nat.not_lt_zero _)) X.prog X.w X.xe _ ⟨.bl (!xs.isEmpty), H, I, ?_, q⟩
  cases rv <;> rfl
def rNe0L (K : PySem.W.Frag) : R2 := fun x y H Q => ∃ a b xs, x = .ref a ∧ y = .ref b ∧ SqL K H a xs ∧ SqL K H b [] ∧ Q (.bl (!xs.isEmpty)) H
theorem op_ne0L (hu : X.A.units < cLine) : OpR X (compareOp .NotEq) (rNe0L X.K) := by
  intro pins s σ H x y v u Q I rx ry h
  obtain ⟨a, b, xs, rfl, rfl, ha, hb, q⟩ := h
  cases rx
  cases ry
  obtain ⟨its, rv, pl, _⟩ := I.list ha
  obtain ⟨its2, rv2, pl2, _⟩ := I.list hb
  cases rv2
  cases rv with
  | nil => exact SeqAt.RcNeAt.lists (e := fun _ => true) pl.isList pl2.isList rfl hu (fun j h1 h2 => absurd h2 (Nat.not_lt_zero _)) X.prog X.w X.xe _ ⟨.bl false, H, I, rfl, q⟩
  | cons r t => exact SeqAt.RcNeAt.lists_lengths pl.isList pl2.isList rfl hu X.prog X.w X.xe _ ⟨.bl true, H, I, rfl, q⟩

/-! ### max(xs, default=i) -/
def rMaxD (K : PySem.W.Frag) : List V → List V → Hp → VK → Prop := fun vs zs H Q => ∃ (a : Addr) (ns : List Int) (d : Int), vs = [V.ref a] ∧ zs = [.int d] ∧ SqL K H a (ns.map V.int) ∧
  (ns = [] → Q (.int d) H) ∧ ∀ y ys, ns = y :: ys → Q (.int (PySem.W.maxOf y ys)) H
theorem holdAll_ints {h : Heap} : ∀ {ns : List Int} {us : List Value}, Vals (ns.map V.int) us → PySem.W.HoldAll h us ns
  | [], us, r => by
    rw [List.map_nil] at r
    cases r
    exact .nil
  | n :: ns, us, r => by
    rw [List.map_cons] at r
    cases r with
    | cons h t =>
      obtain ⟨k, rfl⟩ := h
      exact .cons ⟨_, Reads.int n k⟩ (holdAll_ints t)
theorem cr_maxD (hc : X.calm = true) (hu : X.A.units + 64 < cLine) : CallRK X (.builtin "max") ["default"] (rMaxD X.K) := by
  intro pins s σ H vs zs us ws Q I r rz h
  obtain ⟨a, ns, d, rfl, rfl, hs, q0, q1⟩ := h
  obtain ⟨u, rfl, ru⟩ := vals1 r
  obtain ⟨u2, rfl, t2, rfl⟩ := vals1 rz
  obtain rfl : u = Value.ref a := ru
  obtain ⟨its, rv, pl, _⟩ := I.list hs
  refine PySem.W.max_list_datum_default (α := Int) (xs := ns) (I.ok.hd hc) pl.isList (holdAll_ints rv) (by show X.A.units + 1 + 0 < cLine; omega) (fun e h' tk k => ⟨.int d, H, I.kept k, ⟨_, rfl⟩, q0 e⟩) fun y ys i v h' tk e hi hv k => ?_
  obtain ⟨as, hr⟩ := hv
  have hv2 : ∃ t, v = .int (PySem.W.maxOf y ys) t := by
    have hr2 : Reads h' v (.int (PySem.W.maxOf y ys)) as := hr
    cases hr2 with
    | int i t => exact ⟨t, rfl⟩
  obtain ⟨t, rfl⟩ := hv2
  exact ⟨.int (PySem.W.maxOf y ys), H, I.kept k, ⟨t, rfl⟩, q1 y ys e⟩

/-! ### repr of data, dicts with text keys among them -/
end
/-- a key as data -/
def datK : Key → PyData
  | .inl i => .int i
  | .inr x => .str x
mutual
inductive Dq (K : PySem.W.Frag) (H : Hp) : V → PyData → Prop
  | non : Dq K H .non .none
  | bl (b : Bool) : Dq K H (.bl b) (.bool b)
  | int (i : Int) : Dq K H (.int i) (.int i)
  | str (x : Str) : Dq K H (.str x) (.str x)
  | lst {a : Addr} {xs : List V} {ds : List PyData} : SqL K H a xs → a ≠ sysModules → DqAll K H xs ds → Dq K H (.ref a) (.list ds)
  | tup {a : Addr} {xs : List V} {ds : List PyData} : SqT K H a xs → DqAll K H xs ds → Dq K H (.ref a) (.tuple ds)
  | dict {a : Addr} {kvs : List (Key × V)} {ds : List (PyData × PyData)} : H a = some (.dK kvs) → DqKv K H kvs ds → Dq K H (.ref a) (.dict ds)
inductive DqAll (K : PySem.W.Frag) (H : Hp) : List V → List PyData → Prop
  | nil : DqAll K H [] []
  | cons {v : V} {vs : List V} {d : PyData} {ds : List PyData} : Dq K H v d → DqAll K H vs ds → DqAll K H (v :: vs) (d :: ds)
inductive DqKv (K : PySem.W.Frag) (H : Hp) : List (Key × V) → List (PyData × PyData) → Prop
  | nil : DqKv K H [] []
  | cons {k : Key} {v : V} {vs : List (Key × V)} {d : PyData} {ds : List (PyData × PyData)} : Dq K H v d → DqKv K H vs ds → DqKv K H ((k, v) :: vs) ((datK k, d) :: ds)
end
section
variable {X : Cx} {pins : List (Addr × Obj)} {σ : L2.St} {H : Hp} {s : Shared}
theorem key_reads {h : Heap} {k : Key} {u : Value} (r : keyIs k u = true) : Reads h u (datK k) [] := by
  rcases keyIs_shape r with ⟨i, t, rfl, rfl⟩ | ⟨x, t, rfl, rfl⟩
  · exact .int i t
  · exact .str x t
mutual
theorem Dq.reads (I : Inv X pins σ H s) : ∀ (d : PyData) (v : V) (u : Value), Dq X.K H v d → RelV v u → ∃ as, Reads s.heap u d as ∧ sysModules ∉ as
  | .none, _, _, h, r => by
    cases h
    cases r
    exact ⟨_, Reads.none, by simp⟩
  | .bool b, _, _, h, r => by
    cases h
    cases r
    exact ⟨_, Reads.bool b, by simp⟩
  | .int i, _, _, h, r => by
    cases h
    obtain ⟨t, rfl⟩ := r
    exact ⟨_, Reads.int i t, by simp⟩
  | .str x, _, _, h, r => by
    cases h
    obtain ⟨t, rfl⟩ := r
    exact ⟨_, Reads.str x t, by simp⟩
  | .list ds, _, _, h, r => by
    cases h with
    | lst hs hn ha =>
      cases r
      obtain ⟨its, rv, ⟨o, n, ho, hc, _, hd⟩, _⟩ := I.list hs
      obtain ⟨as, hr, z⟩ := DqAll.reads I ds _ its ha rv
      refine ⟨_, Reads.list ho hc hd hr, fun m => ?_⟩
      rcases List.mem_cons.mp m with e | e
      · exact hn e.symm
      · exact z e
  | .tuple ds, _, _, h, r => by
    cases h with
    | tup hs ha =>
      cases r
      obtain ⟨its, rv, ⟨o, ho, hc, n, hd⟩, _⟩ := I.tuple hs
      obtain ⟨as, hr, z⟩ := DqAll.reads I ds _ its ha rv
      exact ⟨_, Reads.tuple ho hc hd hr, z⟩
  | .dict ds, _, _, h, r => by
    cases h with
    | dict hs ha =>
      cases r
      obtain ⟨_, hm, vs, kv, o, es, ep, ho, hx, hd, _, hp, _⟩ := I.hok _ _ hs
      obtain ⟨r1, bs, r2, z⟩ := DqKv.reads I ds _ vs es.toList ha kv hp
      have hr1 : ReadsAll s.heap (es.toList.map (·.key)) (ds.map (·.1)) [] := r1
      refine ⟨_, Reads.dict ho hx.1 hd hr1 r2, fun m => ?_⟩
      rcases List.mem_cons.mp m with e | e
      · rw [← e] at hm
        simp at hm
      · exact z (by simpa using e)
theorem DqAll.reads (I : Inv X pins σ H s) : ∀ (ds : List PyData) (vs : List V) (us : List Value), DqAll X.K H vs ds → Vals vs us → ∃ as, ReadsAll s.heap us ds as ∧ sysModules ∉ as
  | [], _, _, h, r => by
    cases h
    cases r
    exact ⟨_, ReadsAll.nil, by simp⟩
  | d :: ds, _, _, h, r => by
    cases h with
    | cons h1 h2 =>
      cases r with
      | cons r1 r2 =>
        obtain ⟨as, q1, z1⟩ := Dq.reads I d _ _ h1 r1
        obtain ⟨bs, q2, z2⟩ := DqAll.reads I ds _ _ h2 r2
        exact ⟨_, ReadsAll.cons q1 q2, fun m => (List.mem_append.mp m).elim z1 z2⟩
theorem DqKv.reads (I : Inv X pins σ H s) : ∀ (ds : List (PyData × PyData)) (kvs : List (Key × V)) (vs : List (Key × Value)) (es : List DictEntry), DqKv X.K H kvs ds → KV kvs vs → Pairs (mixKind X.prog X.w) es vs →
    ReadsAll s.heap (es.map (·.key)) (ds.map (·.1)) [] ∧ ∃ bs, ReadsAll s.heap (es.map (·.val)) (ds.map (·.2)) bs ∧ sysModules ∉ bs
  | [], _, _, _, h, kv, p => by
    cases h
    cases kv
    cases p
    exact ⟨.nil, _, .nil, by simp⟩
  | (dk, d) :: ds, _, _, _, h, kv, p => by
    cases h with
    | cons h1 h2 =>
      cases kv with
      | cons r1 r2 =>
        cases p with
        | cons p1 p2 p3 =>
          obtain ⟨e1, e2⟩ := r1
          obtain ⟨as, q1, z1⟩ := Dq.reads I d _ _ h1 e2
          obtain ⟨q2, bs, q3, z2⟩ := DqKv.reads I ds _ _ _ h2 r2 p3
          rw [← e1] at p1
          have q0 := ReadsAll.cons (key_reads (h := s.heap) (show keyIs _ _ = true from p1)) q2
          have q5 := ReadsAll.cons (show Reads s.heap _ d as from by rw [← p2] at q1; exact q1) q3
          exact ⟨q0, _, q5, fun m => (List.mem_append.mp m).elim z1 z2⟩
end
/-- repr(x) of a list, a tuple, a dict; no repr runs around -/
theorem cr_repr (hg : X.A.guards = some []) : CallR X (.builtin "repr") (fun vs H Q => ∃ a d, vs = [.ref a] ∧ Dq X.K H (.ref a) d ∧ d.showable = true ∧ X.A.units + (d.depth + 1) < cLine ∧ d.shown.length ≤ sizeLine ∧ Q (.str d.shown) H) := by
  intro pins s σ H xs us Q I r h
  obtain ⟨a, d, rfl, hd, hs, hu, hz, q⟩ := h
  obtain ⟨u, rfl, ru⟩ := vals1 r
  obtain rfl : u = Value.ref a := ru
  obtain ⟨as, rd, hn⟩ := Dq.reads I d _ _ hd rfl
  exact PySem.repr_of_reads' rd hs (fun _ => hn) hg hu (fun _ _ e => e) (fun h' u tk k => ⟨.str d.shown, H, I.kept k, ⟨_, rfl⟩, q⟩) hz
end
end Pk
-- ## PkRules4
set_option Elab.async false
set_option linter.all false
set_option maxRecDepth 100000
set_option maxHeartbeats 4000000
namespace Pk
open PySem PySem.Spec PyProof.Rows L2
/-! ### sorted(d.items()), ints to ints -/
/-- pairs, sorted by their first, then by their second -/
def insI (p : Int × Int) : List (Int × Int) → List (Int × Int)
  | [] => [p]
  | q :: r => if SrtO.lexB q p = true then q :: insI p r else p :: q :: r
def srtI : List (Int × Int) → List (Int × Int)
  | [] => []
  | p :: r => insI p (srtI r)
theorem insI_perm (p : Int × Int) : ∀ l, (insI p l).Perm (p :: l)
  | [] => .refl _
  | q :: r => by
    unfold insI
    split
    · exact ((insI_perm p r).cons q).trans (List.Perm.swap ..)
    · exact .refl _
theorem srtI_perm : ∀ l, (srtI l).Perm l
  | [] => .refl _
  | p :: r => (insI_perm p _).trans ((srtI_perm r).cons p)
theorem lexS : SrtO.Swo SrtO.lexB := by
  refine ⟨fun x y h => ?_, fun x y z h1 h2 => ?_⟩
  · have a := SrtO.lexB_iff.mp h
    refine SrtO.lexB_no.mpr ?_
    omega
  · have a := SrtO.lexB_no.mp h1
    have b := SrtO.lexB_no.mp h2
    refine SrtO.lexB_no.mpr ?_
    omega
theorem insI_srtd (p : Int × Int) : ∀ {l}, SrtO.Srtd SrtO.lexB l → SrtO.Srtd SrtO.lexB (insI p l)
  | [], _ => List.pairwise_singleton _ _
  | q :: r, h => by
    have hh := List.pairwise_cons.mp h
    unfold insI
    split
    · rename_i hq
      refine List.pairwise_cons.mpr ⟨fun x hx => ?_, insI_srtd p hh.2⟩
      rcases List.mem_cons.mp ((insI_perm p r).mem_iff.mp hx) with e | hx
      · rw [e]; exact lexS.asym _ _ hq
      · exact hh.1 x hx
    · rename_i hq
      have hq : SrtO.lexB q p = false := by simpa using hq
      refine List.pairwise_cons.mpr ⟨fun x hx => ?_, h⟩
      rcases List.mem_cons.mp hx with e | hx
      · rw [e]; exact hq
      · exact lexS.tr p q x hq (hh.1 x hx)
theorem srtI_srtd : ∀ l, SrtO.Srtd SrtO.lexB (srtI l)
  | [] => List.Pairwise.nil
  | p :: r => insI_srtd p (srtI_srtd r)
theorem lex_eq {p q : Int × Int} (h1 : SrtO.lexB p q = false) (h2 : SrtO.lexB q p = false) : p = q := by
  have a := SrtO.lexB_no.mp h1
  have b := SrtO.lexB_no.mp h2
  exact Prod.ext (by omega) (by omega)
/-- there is just one such list -/
theorem lex_uniq : ∀ {l m : List (Int × Int)}, SrtO.Srtd SrtO.lexB l → SrtO.Srtd SrtO.lexB m → l.Perm m → l = m
  | [], m, _, _, h => (List.Perm.eq_nil h.symm).symm
  | x :: l, [], _, _, h => absurd h.length_eq (by simp)
  | x :: l, y :: m, hl, hm, h => by
    have h1 : SrtO.lexB x y = false := by
      rcases List.mem_cons.mp (h.mem_iff.mp (List.mem_cons_self (a := x) (l := l))) with e | hx
      · rw [e]; exact lexS.refl y
      · exact SrtO.srtd_head hm x hx
    have h2 : SrtO.lexB y x = false := by
      rcases List.mem_cons.mp (h.mem_iff.mpr (List.mem_cons_self (a := y) (l := m))) with e | hy
      · rw [e]; exact lexS.refl x
      · exact SrtO.srtd_head hl y hy
    have e := lex_eq h1 h2
    subst e
    rw [lex_uniq (List.pairwise_cons.mp hl).2 (List.pairwise_cons.mp hm).2 h.cons_inv]
theorem srtI_of {l m : List (Int × Int)} (h : SrtO.Srtd SrtO.lexB l) (p : l.Perm m) : l = srtI m := lex_uniq h (srtI_srtd m) (p.trans (srtI_perm m).symm)
/-- a dict's ints -/
abbrev ii (p : Int × Int) : Key × V := (Sum.inl p.1, V.int p.2)
/-- d.items(): the view -/
def rItemsK : V → List V → Hp → VK → Prop := fun x xs H Q => ∃ (a : Addr) (kvs : List (Key × V)), x = .ref a ∧ xs = [] ∧ H a = some (.dK kvs) ∧ ∀ p, H p = none → Q (.ref p) (upd H p (DX.itemsO p a))
/-- the two ints of a pair that stands in the heap -/
def kkOf (h : Heap) : Value → Int × Int
  | .ref a => match h.get? a with
    | some o => match o.data with
      | .seq its _ => match its.toList with
        | [.int x _, .int y _] => (x, y)
        | _ => (0, 0)
      | _ => (0, 0)
    | none => (0, 0)
  | _ => (0, 0)
theorem kkOf_at {h : Heap} {a : Addr} {x y : Int} {t u : Tok} (e : h.get? a = some { cls := .type "tuple", data := .seq #[.int x t, .int y u] }) : kkOf h (.ref a) = (x, y) := by
  show (match h.get? a with
    | some o => match o.data with
      | .seq its _ => match its.toList with
        | [.int x _, .int y _] => (x, y)
        | _ => (0, 0)
      | _ => (0, 0)
    | none => (0, 0)) = (x, y)
  rw [e]
theorem pairs_ix {P : Program} {w : World} : ∀ {es : List DictEntry} {vs : List (Key × Value)} {kvs : List (Int × Int)}, Pairs (mixKind P w) es vs → KV (kvs.map ii) vs → es.length = kvs.length ∧ ∀ (j : Nat) (e : DictEntry), es[j]? = some e → ∃ k i t t', kvs[j]? = some (k, i) ∧ e.key = .int k t ∧ e.val = .int i t'
  | _, _, [], p, r => by
    cases r
    cases p
    exact ⟨rfl, fun j e h => by simp at h⟩
  | _, _, (k, i) :: kvs, p, r => by
    cases r with
    | cons r1 r2 =>
      cases p with
      | @cons e0 _ _ _ p1 p2 p3 =>
        obtain ⟨l, ih⟩ := pairs_ix p3 r2
        obtain ⟨e1, t', e2⟩ := r1
        refine ⟨by simp [l], fun j e h => ?_⟩
        cases j with
        | zero =>
          cases h
          rw [← e1] at p1
          rcases keyIs_shape (show keyIs (Sum.inl k) e0.key = true from p1) with ⟨i', t, e3, e4⟩ | ⟨x, t, e3, e4⟩
          · cases e3
            exact ⟨k, i, t, t', rfl, e4, p2.trans e2⟩
          · cases e3
        | succ j =>
          obtain ⟨k2, i2, t2, t3, a, b, c⟩ := ih j e (by simpa using h)
          exact ⟨k2, i2, t2, t3, by simpa using a, b, c⟩
def rSortI : List V → Hp → VK → Prop := fun vs H Q => ∃ (p d : Addr) (kvs : List (Int × Int)), vs = [.ref p] ∧ H p = some (DX.itemsO p d) ∧ H d = some (.dK (kvs.map ii)) ∧
  ∀ (H' : Hp) (l : Addr) (ps : List (Addr × Int × Int)), Same H H' → H' l = some (.lst (ps.map fun z => V.ref z.1)) → ps.map (·.2) = srtI kvs → (∀ z ∈ ps, H' z.1 = some (.tup [.int z.2.1, .int z.2.2])) → Q (.ref l) H'
section
variable {X : Cx}
theorem mt_itemsK : MtR X "dict.items" rItemsK := by
  intro pins s σ H x xs v us Q I rx rxs h
  obtain ⟨a, kvs, rfl, rfl, ha, q⟩ := h
  cases rx
  cases rxs
  obtain ⟨hz, hd, vs, kv, o, es, ep, ho, hx, hdat, _⟩ := I.hok a _ ha
  refine DT.callItems (es := es) (ep := ep) hd ⟨o, ho, hx, hdat⟩ ?_
  have hf : H s.heap.objs.size = none := I.hok.fresh (Nat.le_refl _)
  exact ⟨.ref s.heap.objs.size, upd H s.heap.objs.size (DX.itemsO s.heap.objs.size a), I.laid (t' := s.toks) (fun b u e => Heap.get?_push_of_some _ e) (Nat.le_refl _) (DX.itemsO_ok (Heap.get?_push_size _ rfl)), rfl, q _ hf⟩
theorem cr_sortI (hc : X.calm = true) : CallR X (.builtin "sorted") rSortI := by
  intro pins s σ H xs us Q I r h
  obtain ⟨p, d, kvs, rfl, hp, hd0, q⟩ := h
  obtain rfl := Vals.ref1 r
  have view : s.heap.IsItemsView p d := (show ObjOk X.prog X.w H s.heap p (DX.itemsO p d) from I.hok p _ hp).1
  obtain ⟨hz, hd, vs, kv, o, es, ep, ho, hx, hdat, _, hpr, _⟩ := I.hok d _ hd0
  obtain ⟨l1, ix⟩ := pairs_ix hpr kv
  rw [List.length_map] at hz
  rw [Array.length_toList] at l1
  have hh : X.A.handled = none := I.ok.hd hc
  refine DT.sortedI (es := es) (ep := ep) hh view ⟨o, ho, hx, hdat⟩ (by omega) fun h' tk as hk hlt hl hG => ?_
  have lak : as.length = kvs.length := by omega
  have nd : as.Nodup := List.Pairwise.imp (fun h => Nat.ne_of_lt h) hG.rise
  have pr : ∀ (j : Nat) (b : Addr), as[j]? = some b → ∃ k i t t', kvs[j]? = some (k, i) ∧ h'.get? b = some { cls := .type "tuple", data := .seq #[.int k t, .int i t'] } := fun j b hj => by
    obtain ⟨en, he, hg⟩ := hG.pairs j b hj
    obtain ⟨k, i, t, t', e1, e2, e3⟩ := ix j en (by rw [Array.getElem?_toList]; exact he)
    exact ⟨k, i, t, t', e1, by rw [hg, e2, e3]⟩
  have hob : (h'.push { cls := .type "list", data := .seq (as.map Value.ref).toArray }).get? h'.objs.size = some (seqObj "list" (as.map Value.ref).toArray 0) := Heap.get?_push_size _ rfl
  have kb : ∀ b o, s.heap.get? b = some o → (h'.push { cls := .type "list", data := .seq (as.map Value.ref).toArray }).get? b = some o := fun b o e => Heap.get?_push_of_some _ (hk b o e)
  have ne0 : ∀ b o, h'.get? b = some o → b ≠ h'.objs.size := fun b o e => Nat.ne_of_lt (Heap.lt_size e)
  have ka : ∀ b o, h'.get? b = some o → (h'.push { cls := .type "list", data := .seq (as.map Value.ref).toArray }).get? b = some o := fun b o e => Heap.get?_push_of_some _ e
  generalize h'.push { cls := .type "list", data := .seq (as.map Value.ref).toArray } = h2 at hob kb ka ⊢
  have kk : ∀ (j : Nat) (b : Addr), as[j]? = some b → kvs[j]? = some (kkOf h2 (.ref b)) := fun j b hj => by
    obtain ⟨k, i, t, t', e1, e2⟩ := pr j b hj
    rw [kkOf_at (ka _ _ e2)]
    exact e1
  have hpair : ∀ v ∈ as.map Value.ref, Srt.IsPair h2 v (kkOf h2 v).1 (kkOf h2 v).2 := fun v hv => by
    obtain ⟨b, hb, rfl⟩ := List.mem_map.mp hv
    obtain ⟨j, hj⟩ := List.mem_iff_getElem?.mp hb
    obtain ⟨k, i, t, t', e1, e2⟩ := pr j b hj
    rw [kkOf_at (ka _ _ e2)]
    exact ⟨b, _, t, t', 0, rfl, ka _ _ e2, rfl, rfl⟩
  have hvz : (as.map Value.ref).length ≤ sizeLine := by rw [List.length_map]; omega
  refine wpAny_call_entry PyProof.Rows.slot_list_sort ⟨_, hob, rfl⟩ PyProof.Rows.entry_list_sort
    (SrtO.list_sort_ord (s := { s with heap := h2, toks := tk }) (n := 0) (SrtO.swo_lex (kkOf h2)) hob hvz (fun hl2 => SrtO.pairs_sortableO (s := { s with heap := h2, toks := tk }) (by omega) hpair fun o e => ?_) fun out o1 o2 => ⟨.none, rfl, ?_⟩) (PyProof.Rows.args_list_sort _)
  · have e' : some o = some (seqObj "list" (as.map Value.ref).toArray 0) := e.symm.trans hob
    cases e'
    intro c
    exact absurd (Value.type.inj c) (by decide)
  · show EP X pins σ Q (.ref h'.objs.size) { s with heap := sortedHeap h2 h'.objs.size (as.map Value.ref) out.toArray, toks := tk }
    -- out, as addresses
    have href : ∀ u ∈ out, ∃ b, u = Value.ref b ∧ b ∈ as := fun u hu => by
      obtain ⟨b, hb, rfl⟩ := List.mem_map.mp (o2.perm.mem_iff.mp hu)
      exact ⟨b, rfl, hb⟩
    obtain ⟨bs, rfl⟩ : ∃ bs : List Addr, out = bs.map Value.ref := by
      refine ⟨out.map fun u => match u with | .ref b => b | _ => 0, ?_⟩
      rw [List.map_map]
      conv => lhs; rw [← List.map_id out]
      refine List.map_congr_left fun u hu => ?_
      obtain ⟨b, rfl, _⟩ := href u hu
      rfl
    have pbs : bs.Perm as := by
      have := o2.perm.map fun u => match u with | Value.ref b => b | _ => 0
      rw [List.map_map, List.map_map] at this
      have f : ((fun u => match u with | Value.ref b => b | _ => 0) ∘ Value.ref : Addr → Addr) = id := rfl
      rw [f, List.map_id, List.map_id] at this
      exact this
    have kvmap : as.map (fun b => kkOf h2 (.ref b)) = kvs := by
      refine List.ext_getElem? fun j => ?_
      rw [List.getElem?_map]
      cases hj : as[j]? with
      | none =>
        have : kvs.length ≤ j := by rw [← lak]; exact List.getElem?_eq_none_iff.mp hj
        rw [List.getElem?_eq_none_iff.mpr this]
        rfl
      | some b => exact (kk j b hj).symm
    have hdet : bs.map (fun b => kkOf h2 (.ref b)) = srtI kvs := by
      refine srtI_of ?_ (by rw [← kvmap]; exact pbs.map _)
      have := List.pairwise_map.mp o1
      exact List.pairwise_map.mpr this
    have kF : ∀ b o, b ≠ h'.objs.size → h2.get? b = some o → (sortedHeap h2 h'.objs.size (as.map Value.ref) (bs.map Value.ref).toArray).get? b = some o := fun b o hb e => (PyProof.Rows.sortedHeap_old hb (Heap.lt_size e)).trans e
    have kS : ∀ b o, s.heap.get? b = some o → (sortedHeap h2 h'.objs.size (as.map Value.ref) (bs.map Value.ref).toArray).get? b = some o := fun b o e => kF b o (ne0 _ _ (hk b o e)) (kb b o e)
    obtain ⟨eF, heF⟩ := PyProof.Rows.sortedHeap_at (vs := as.map Value.ref) (out := (bs.map Value.ref).toArray) hob
    have I1 : Inv X pins σ H { s with heap := sortedHeap h2 h'.objs.size (as.map Value.ref) (bs.map Value.ref).toArray, toks := tk } := I.kept (t' := tk) kS
    have hn0 : H h'.objs.size = none := I.hok.fresh (Nat.le_of_lt hlt)
    have hlen : (bs.map V.ref).length ≤ sizeLine := by
      rw [List.length_map, pbs.length_eq]
      omega
    have I2 : Inv X pins σ (upd H h'.objs.size (.lst (bs.map V.ref))) { s with heap := sortedHeap h2 h'.objs.size (as.map Value.ref) (bs.map Value.ref).toArray, toks := tk } :=
      I1.take (h' := sortedHeap h2 h'.objs.size (as.map Value.ref) (bs.map Value.ref).toArray) (t' := tk) (fun b ob _ e => e) (I.fpOk (Nat.le_of_lt hlt) hn0) ⟨hlen, bs.map Value.ref, eF, LiI.vals_refs bs, by rw [heF]⟩
    obtain ⟨H2, I3, g, qt⟩ := DX.takeT (P := fun b vs => vs = [.int (kkOf h2 (.ref b)).1, .int (kkOf h2 (.ref b)).2]) I as _ I2 nd fun b hb => by
      obtain ⟨j, hj⟩ := List.mem_iff_getElem?.mp hb
      obtain ⟨k, i, t, t', e1, e2⟩ := pr j b hj
      have hbl : s.heap.objs.size ≤ b := Nat.le_of_lt (hG.above b hb)
      refine ⟨hbl, ?_, _, rfl, fun H3 => ?_⟩
      · rw [upd_ne (ne0 _ _ e2)]
        exact I.hok.fresh hbl
      · rw [kkOf_at (ka _ _ e2)]
        exact ⟨(by rw [sizeLine_eq]; show 2 ≤ 16777216; omega), [.int k t, .int i t'], .cons ⟨t, rfl⟩ (.cons ⟨t', rfl⟩ .nil), ⟨_, kF _ _ (ne0 _ _ e2) (ka _ _ e2), rfl, 0, rfl⟩⟩
    have gr : Same H H2 := fun b o e => g b o (by rw [upd_ne (ne_of_none e hn0)]; exact e)
    refine ⟨.ref h'.objs.size, H2, I3, rfl, q H2 h'.objs.size (bs.map fun b => (b, kkOf h2 (.ref b))) gr ?_ ?_ fun z hz => ?_⟩
    · rw [List.map_map]
      exact g _ _ upd_same
    · rw [List.map_map]
      exact hdet
    · obtain ⟨b, hb, rfl⟩ := List.mem_map.mp hz
      obtain ⟨vs, e, hv⟩ := qt b (pbs.mem_iff.mp hb)
      rw [hv, e]
end
end Pk
-- ## PkRules5
set_option Elab.async false
set_option linter.all false
set_option maxRecDepth 100000
set_option maxHeartbeats 4000000
namespace Pk
open PySem PySem.Spec PyProof.Rows L2 RZ
/-! ### zip(a text, a list) -/
def ItzX (K : PySem.W.Frag) (z : Str) (b : Addr) : It :=
  ⟨fun i H => i < z.cps.size ∧ ∃ (ys : List V) (y : V), SqL K H b ys ∧ ys[i]? = some y,
    fun i H v H' => ∃ T c y, v = .ref T ∧ H T = none ∧ H' = upd H T (.tup [.str ⟨#[c]⟩, y]) ∧ z.cps[i]? = some c ∧ ∀ ys, SqL K H b ys → ys[i]? = some y,
    fun i H => ∃ ys : List V, SqL K H b ys ∧ i ≤ z.cps.size ∧ i ≤ ys.length ∧ (i = z.cps.size ∨ i = ys.length)⟩
theorem turn_zipX {P : Program} {w : World} {K : PySem.W.Frag} {elts : List Expr} {kk : Nat} {tpos : Pos} {x : Str} {t : Tok} {b z TI TO i1 i2 : Addr} (D : ZipSep2 z TI TO i1 i2 [i1] [i2, b]) (hne : b ≠ i2) :
    Turn P w K (.Tuple elts kk tpos) (ItzX K x b) [z, TI, TO, i1, i2] z (fun i h => IsZip h z TI TO .none ∧ IsTupOf2 h TI (.ref i1) (.ref i2) ∧ (∃ x y, IsTupOf2 h TO x y) ∧ h.IsStrIter i1 (strIterType x) x t i ∧ h.IsListIter i2 b i) where
  mem := by simp
  obj := fun i h st c hc => by
    obtain ⟨hz, hTI, ⟨x, y, hTO⟩, ⟨o1, e1, _, d1⟩, ⟨o2, e2, _, d2⟩⟩ := st
    have e' : c = z ∨ c = TI ∨ c = TO ∨ c = i1 ∨ c = i2 := by simpa using hc
    rcases e' with q | q | q | q | q
    · rw [q]; exact ⟨_, hz, fun v q => nomatch q⟩
    · rw [q]; exact ⟨_, hTI, fun v q => nomatch q⟩
    · rw [q]; exact ⟨_, hTO, fun v q => nomatch q⟩
    · rw [q]; exact ⟨o1, e1, fun v q => by rw [d1] at q; cases q⟩
    · rw [q]; exact ⟨o2, e2, fun v q => by rw [d2] at q; cases q⟩
  keep := fun i h h' st k => by
    obtain ⟨hz, hTI, ⟨x, y, hTO⟩, ⟨o1, e1, r1⟩, h2⟩ := st
    exact ⟨k z (by simp) _ hz, k TI (by simp) _ hTI, ⟨x, y, k TO (by simp) _ hTO⟩, ⟨o1, k i1 (by simp) _ e1, r1⟩, h2.at fun o q => k i2 (by simp) o q⟩
  item := by
    intro X hP hw hK hc i pins s σ H E I hf st hg
    subst hP hw hK
    obtain ⟨hz, hTI, ⟨x0, y0, hTO⟩, h1, h2⟩ := st
    obtain ⟨hlt, ys, y, hqy, hy⟩ := hg
    obtain ⟨its2, rv2, p2, _⟩ := I.list hqy
    obtain ⟨u2, hu2, ru2⟩ := rv2.get hy
    have hzl : z < s.heap.objs.size := Heap.lt_size hz
    have hh : X.A.in1.handled = none := I.ok.hd hc
    have hl2 : i < its2.toArray.size := by
      have := (List.getElem?_eq_some_iff.mp hu2).1
      simpa using this
    refine wpAny_pyNext_zipD2_item D (Draws.text hh i1 x t) (Draws.list hh i2 b hne its2.toArray) hz hTI hTO h1 ⟨h2, p2.isList⟩ hlt hl2 fun x1 x2 h' tk q1 q2 z' TO' h1' h2' hT hsz hk => ?_
    obtain ⟨c, u, hcx, rfl⟩ := q1
    have e2 : x2 = u2 := by
      have : some x2 = some u2 := q2.symm.trans (by simpa using hu2)
      exact Option.some.inj this
    subst e2
    refine ⟨_, rfl, wpAny_letOwnedTupleGo_zip (s := { s with heap := h', toks := tk }) z' fun h'' z'' sb => ?_⟩
    have hT2 : h''.get? s.heap.objs.size = some { cls := .type "tuple", data := .seq #[.str ⟨#[c]⟩ u, x2] } := (sb.2 _ (Nat.ne_of_gt hzl)).trans hT
    have new : ObjOk X.prog X.w (upd H s.heap.objs.size (.tup [.str ⟨#[c]⟩, y])) h'' s.heap.objs.size (.tup [.str ⟨#[c]⟩, y]) :=
      ⟨by show 2 ≤ sizeLine; decide, [.str ⟨#[c]⟩ u, x2], .cons ⟨u, rfl⟩ (.cons ru2 .nil), ⟨_, hT2, rfl, _, rfl⟩⟩
    have I1 : Inv X pins σ (upd H s.heap.objs.size (.tup [.str ⟨#[c]⟩, y])) { s with heap := h'', toks := tk } :=
      I.turnedNew (t' := tk) (ch := [z, TI, TO, i1, i2]) (fun c o hb q => (sb.2 c (fun q' => hb (by simp [q']))).trans (hk c o (fun q' => hb (by simp [q'])) (fun q' => hb (by simp [q'])) (fun q' => hb (by simp [q'])) (fun q' => hb (by simp [q'])) q)) hf (Nat.le_refl _) new
    have h1'' : h''.IsStrIter i1 (strIterType x) x t (i + 1) := by
      obtain ⟨o, ho, r⟩ := h1'
      exact ⟨o, (sb.2 _ (fun q => D.zf1 (by rw [← q]; exact D.mem1))).trans ho, r⟩
    refine ⟨.ref s.heap.objs.size, _, I1, rfl, ⟨_, c, y, rfl, I.hok.fresh (Nat.le_refl _), rfl, hcx, fun l hl => by rw [I.list_inj hl hqy]; exact hy⟩, ⟨z'', ?_, ⟨.str ⟨#[c]⟩ u, x2, ?_⟩, h1'', ?_⟩, fun c hcm => ?_⟩
    · exact (sb.2 _ D.TIz).trans (hk _ _ D.TIz D.TITO D.TIi1 D.TIi2 hTI)
    · exact (sb.2 _ D.TOz).trans TO'
    · exact h2'.1.at fun o q => (sb.2 _ (fun q => D.zf2 (by rw [← q]; exact D.mem2))).trans q
    · have hlt : c < s.heap.objs.size := by
        have e' : c = z ∨ c = TI ∨ c = TO ∨ c = i1 ∨ c = i2 := by simpa using hcm
        rcases e' with q | q | q | q | q
        · rw [q]; exact hzl
        · rw [q]; exact Heap.lt_size hTI
        · rw [q]; exact Heap.lt_size hTO
        · rw [q]; obtain ⟨_, e1, _⟩ := h1; exact Heap.lt_size e1
        · rw [q]; obtain ⟨_, e2, _⟩ := h2; exact Heap.lt_size e2
      rw [upd_ne (Nat.ne_of_lt hlt)]
      exact (hf c hcm).1
  done := by
    intro X hP hw hK hc i pins s σ H E I hf st hg
    subst hP hw hK
    obtain ⟨hz, hTI, ⟨x0, y0, hTO⟩, h1, h2⟩ := st
    obtain ⟨ys, hqy, l1, l2, hend⟩ := hg
    obtain ⟨its2, rv2, p2, _⟩ := I.list hqy
    have hl := rv2.length
    have hh : X.A.in1.handled = none := I.ok.hd hc
    have hs : its2.toArray.size = ys.length := by rw [List.size_toArray]; exact hl.symm
    exact wpAny_pyNext_zipD2_end D (Draws.text hh i1 x t) (Draws.list hh i2 b hne its2.toArray) hz hTI hTO h1 ⟨h2, p2.isList⟩ l1 (by omega) (by omega) fun h' tk hk => ⟨rfl, I.turnedL (t' := tk) (ch := [z, TI, TO, i1, i2]) (fun c o hb q =>
      hk c o (fun q' => hb (by simp [q'])) (fun q' => hb (by simp [q'])) (fun q' => hb (by simp [q'])) (fun q' => hb (by simp [q'])) q) hf⟩
  self := fun A i s Q E st h => wpAny_pyIter_zip st.1 h
abbrev zX1 (h : Heap) (x : Str) (t : Tok) : Heap := h.push { cls := .type (strIterType x), data := .fields #[.str x t, .int 0 0] }
abbrev zX2 (h : Heap) (x : Str) (t : Tok) (l2 : Addr) : Heap := (zX1 h x t).push { cls := .type "list_iterator", data := .fields #[.ref l2, .int 0 0] }
abbrev zX3 (h : Heap) (x : Str) (t : Tok) (l2 : Addr) : Heap := (zX2 h x t l2).push { cls := .type "tuple", data := .seq #[.ref h.objs.size, .ref (zX1 h x t).objs.size] }
abbrev zX4 (h : Heap) (x : Str) (t : Tok) (l2 : Addr) : Heap := (zX3 h x t l2).push { cls := .type "tuple", data := .seq #[.none, .none] }
abbrev zX5 (h : Heap) (x : Str) (t : Tok) (l2 : Addr) : Heap := (zX4 h x t l2).push { cls := .type "zip", data := .fields #[.none, .bool false, .bool false, .ref (zX2 h x t l2).objs.size, .ref (zX3 h x t l2).objs.size] }
theorem iter_txt {prog : Program} {w : World} {A : Around} {E : Value → Shared → Prop} {s : Shared} {x : Str} {t : Tok} {Q : Value → Shared → Prop} (h : Q (.ref s.heap.objs.size) { s with heap := zX1 s.heap x t }) : wpAny (model prog w) A (pyIter (.str x t)) Q E s := by
  cases ha : x.cps.all (· < 128)
  · refine wpAny_pyIter_wide ha ?_
    simpa [zX1, strIterType, ha] using h
  · refine wpAny_pyIter_ascii ha ?_
    simpa [zX1, strIterType, ha] using h
theorem meets_zipX_new (x : Str) (t : Tok) (l2 : Addr) (ys : Array Value) :
    Meets (Builtin.«zip.__new__» ⟨[.type "zip", .str x t, .ref l2], []⟩) (fun _ R s => s.heap.IsList l2 ys ∧
      R (.ok (.ret (.ref (zX4 s.heap x t l2).objs.size))) { s with heap := zX5 s.heap x t l2 }) :=
  .of_wp fun prog w A R s h => by
    obtain ⟨hp, g, d, tk, os⟩ := s; obtain ⟨hl2, h⟩ := h
    have hsub := sub_zip
    have hL2 : Heap.IsList (Shared.heap ⟨hp.push { cls := .type (strIterType x), data := .fields #[.str x t, .int 0 0] }, g, d, tk, os⟩) l2 ys := Heap.IsList.push hl2 _
    wp_walk using iter_txt, wpAny_pyIter_list hL2
    exact ⟨_, rfl, h⟩
section
variable {prog : Program} {w : World} {A : Around} {E : Value → Shared → Prop} {s : Shared}
theorem call_zipX {x : Str} {t : Tok} {l2 : Addr} {ys : Array Value} {Q : Value → Shared → Prop} (hl2 : s.heap.IsList l2 ys)
    (h : ∀ h', IsZip h' (s.heap.objs.size + 4) (s.heap.objs.size + 2) (s.heap.objs.size + 3) .none → IsTupOf2 h' (s.heap.objs.size + 2) (.ref s.heap.objs.size) (.ref (s.heap.objs.size + 1)) →
      IsTupOf2 h' (s.heap.objs.size + 3) .none .none → h'.IsStrIter s.heap.objs.size (strIterType x) x t 0 → h'.IsListIter (s.heap.objs.size + 1) l2 0 →
      (∀ c o, s.heap.get? c = some o → h'.get? c = some o) → Q (.ref (s.heap.objs.size + 4)) { s with heap := h' }) :
    wpAny (model prog w) A (call (.type "zip") [.str x t, .ref l2]) Q E s := by
  refine callType_new F.called_zip (by decide) (F.typeCall_zip_2 _ _) (F.newCall_zip_2 _ _) (fun obj => F.args_object_init_3 obj _ _) F.entry_zip_new
    (meets_zipX_new x t l2 ys) ⟨hl2, ?_⟩
  have z1 : (zX1 s.heap x t).objs.size = s.heap.objs.size + 1 := Heap.size_push ..
  have z2 : (zX2 s.heap x t l2).objs.size = s.heap.objs.size + 2 := by rw [Heap.size_push, z1]
  have z3 : (zX3 s.heap x t l2).objs.size = s.heap.objs.size + 3 := by rw [Heap.size_push, z2]
  have z4 : (zX4 s.heap x t l2).objs.size = s.heap.objs.size + 4 := by rw [Heap.size_push, z3]
  have g5 : (zX5 s.heap x t l2).get? (zX4 s.heap x t l2).objs.size = some _ := Heap.get?_push_size _ rfl
  have g4 : (zX5 s.heap x t l2).get? (zX3 s.heap x t l2).objs.size = some _ := Heap.get?_push_of_some _ (Heap.get?_push_size _ rfl)
  have g3 : (zX5 s.heap x t l2).get? (zX2 s.heap x t l2).objs.size = some _ := Heap.get?_push_of_some _ (Heap.get?_push_of_some _ (Heap.get?_push_size _ rfl))
  have g2 : (zX5 s.heap x t l2).get? (zX1 s.heap x t).objs.size = some _ := Heap.get?_push_of_some _ (Heap.get?_push_of_some _ (Heap.get?_push_of_some _ (Heap.get?_push_size _ rfl)))
  have g1 : (zX5 s.heap x t l2).get? s.heap.objs.size = some _ := Heap.get?_push_of_some _ (Heap.get?_push_of_some _ (Heap.get?_push_of_some _ (Heap.get?_push_of_some _ (Heap.get?_push_size _ rfl))))
  show _ ∧ _
  rw [z2, z3, z4] at g5
  rw [z1, z2] at g3
  rw [z3] at g4
  rw [z1] at g2
  rw [z4]
  exact ⟨⟨_, g5, rfl⟩, h _ g5 g3 g4 ⟨_, g1, rfl, rfl⟩ ⟨_, g2, rfl, rfl⟩ fun c o x =>
    Heap.get?_push_of_some _ (Heap.get?_push_of_some _ (Heap.get?_push_of_some _ (Heap.get?_push_of_some _ (Heap.get?_push_of_some _ x))))⟩
end
theorem zsep (n b : Nat) (h : b < n) : ZipSep2 (n + 4) (n + 2) (n + 3) n (n + 1) [n] [n + 1, b] := by
  have e1 : ∀ x : Nat, x ∈ [n] → x = n := fun x hx => List.mem_singleton.mp hx
  have e2 : ∀ x : Nat, x ∈ [n + 1, b] → x = n + 1 ∨ x = b := fun x hx => by simpa using hx
  refine ⟨fun z => ?_, fun z => ?_, fun z => ?_, fun z => ?_, List.mem_singleton.mpr rfl, fun z => ?_, fun z => ?_, fun z => ?_, List.mem_cons_self, fun z => ?_, fun z => ?_, fun z => ?_, fun z => ?_⟩
  all_goals first
    | (have z : (_ : Nat) = _ := z; omega)
    | (have := e1 _ z; omega)
    | (have := e2 _ z; omega)
def iZipX (K : PySem.W.Frag) (ta : TA) : TI := fun σ H R => ta σ H fun vs H1 => ∃ z b ys, vs = [.str z, .ref b] ∧ SqL K H1 b ys ∧ R (ItzX K z b) H1
theorem pi_zipX {X : Cx} {e e2 : Expr} {ta : TA} {p pos tpos : Pos} {elts : List Expr} {kk : Nat} (hg : Gl X "zip") (hm : X.mg "zip" = none) (ha : PA X [e, e2] ta)
    (hs : starEach [e, e2] X.env = (false, eval e X.env) :: starEach [e2] X.env := by rfl) (hpl : (backTo pos (starEach [e2] X.env)).any (·.1) = false := by rfl) :
    PI X (.Tuple elts kk tpos) (.Call (.Name "zip" p) [e, e2] [] pos) (iZipX X.K ta) := by
  refine ⟨fun pins s σ H R I h => ?_⟩
  refine Call_ (ld_blt I hg hm PyProof.Rows.boot_zip (PyProof.Rows.callWith_type1 (thn (ha.run pos pins s σ H _ I h) fun us s1 ⟨vs, H1, I1, r1, q1⟩ => ?_) hs hpl))
  obtain ⟨z, b, ys, ex, hqy, q⟩ := q1
  subst ex
  cases r1 with
  | cons r rr =>
    cases rr with
    | cons r' rr =>
      cases rr
      obtain ⟨t, rfl⟩ := r
      cases r'
      obtain ⟨its2, rv2, p2, _⟩ := I1.list hqy
      have hbl : b < s1.heap.objs.size := p2.lt
      refine call_zipX p2.isList fun h' hz hTI hTO h1 h2 hk => wpAny_pyIter_zip hz ?_
      have I2 : Inv X pins σ H1 { s1 with heap := h' } := I1.kept (t' := s1.toks) hk
      refine ⟨s1.heap.objs.size + 4, [s1.heap.objs.size + 4, s1.heap.objs.size + 2, s1.heap.objs.size + 3, s1.heap.objs.size, s1.heap.objs.size + 1], _, _, H1, rfl, I2, turn_zipX ?_ ?_, ⟨hz, hTI, ⟨_, _, hTO⟩, h1, h2⟩, fun c hcm => ?_, q⟩
      · exact zsep s1.heap.objs.size b hbl
      · exact fun z => absurd hbl (by rw [z]; exact Nat.not_lt.mpr (Nat.le_succ _))
      · have e' : c = s1.heap.objs.size + 4 ∨ c = s1.heap.objs.size + 2 ∨ c = s1.heap.objs.size + 3 ∨ c = s1.heap.objs.size ∨ c = s1.heap.objs.size + 1 := by simpa using hcm
        have hle : s1.heap.objs.size ≤ c := by
          rcases e' with z | z | z | z | z
          · rw [z]; exact Nat.le_add_right _ _
          · rw [z]; exact Nat.le_add_right _ _
          · rw [z]; exact Nat.le_add_right _ _
          · rw [z]; exact Nat.le_refl _
          · rw [z]; exact Nat.le_add_right _ _
        exact I1.fpOk hle (I1.hok.fresh hle)
theorem walk_zipX {K : PySem.W.Frag} {z : Str} {b : Addr} {ys : List V} {n : Nat} (hn : n = min z.cps.size ys.length) : L2.Walk (ItzX K z b) n (fun H => SqL K H b ys) (fun i H v H' => ∃ T c y, v = .ref T ∧ H T = none ∧ H' = upd H T (.tup [.str ⟨#[c]⟩, y]) ∧ z.cps[i]? = some c ∧ ys[i]? = some y) := by
  subst hn
  refine ⟨fun i _ hi q => ⟨by omega, ys, ys[i]'(by omega), q, by simp⟩, fun _ q => ⟨ys, q, by omega, by omega, by omega⟩, fun i H v H' _ q y => ?_⟩
  obtain ⟨T, c, y, h1, h2, h3, h4, h5⟩ := y
  exact ⟨T, c, y, h1, h2, h3, h4, h5 ys q⟩
end Pk
-- ## PkRules6
set_option Elab.async false
set_option linter.all false
set_option maxRecDepth 100000
set_option maxHeartbeats 4000000
namespace Pk
open PySem PySem.Spec PyProof.Rows L2
/-! ### sorted(set(xs)), xs a list of texts: what stands in it is of xs, no more than those, one at least -/
/-- a set of texts of F, at most c, one as soon as c is not 0; its table can be walked -/
def SetT (P : Program) (w : World) (h : Heap) (a : Addr) (F : Str → Prop) (c : Nat) : Prop :=
  ∃ o es ep t, h.get? a = some o ∧ o.ExactSet ∧ o.data = .set es ep t ∧ ElemsOf (PySem.strKind P w) es.toList ∧ (∀ e ∈ es.toList, ∃ x tk, e.2 = Value.str x tk ∧ F x) ∧
    es.size < scanBound ∧ t.fits es.size = true ∧ es.size ≤ c ∧ (0 < c → 0 < es.size) ∧ Ris t.place.toList ∧ (w.params.followText "set-order" = true ∨ t.led = true)
section
variable {P : Program} {w : World} {h h' : Heap} {a : Addr} {F : Str → Prop} {c : Nat}
theorem SetT.at (R : SetT P w h a F c) (k : ∀ o, h.get? a = some o → h'.get? a = some o) : SetT P w h' a F c := by
  obtain ⟨o, es, ep, t, ho, r⟩ := R
  exact ⟨o, es, ep, t, k o ho, r⟩
theorem setT_new (ho : h.get? a = some { cls := .type "set", dict := none, data := .set #[] 0 (.fresh 0 0 (!w.params.followText "set-order")) }) : SetT P w h a F 0 :=
  ⟨_, #[], 0, _, ho, ⟨rfl, rfl, rfl⟩, rfl, (fun e he => by simp at he), (fun e he => by simp at he), (by decide), (by rfl), Nat.le_refl _, (fun z => absurd z (Nat.lt_irrefl _)), List.Pairwise.nil, by
    show _ ∨ (!w.params.followText "set-order") = true
    cases w.params.followText "set-order"
    · exact .inr rfl
    · exact .inl rfl⟩
end
section
variable {P : Program} {w : World} {A : Around} {E : Value → Shared → Prop} {s : Shared} {a : Addr} {F : Str → Prop} {c : Nat}
theorem setT_tail {g : Bool → Sem Unit} (hg : ∀ (b : Bool) (s₁ : Shared) (Q' : Unit → Shared → Prop), Q' () s₁ → wpAny (model P w) A (g b) Q' E s₁)
    {o : Obj} {es : Array (Int × Value)} {ep : Nat} {t : SetTable} (ho : s.heap.get? a = some o) (hex : o.ExactSet) (hd : o.data = .set es ep t)
    {es1 : Array (Int × Value)} {t2 : SetTable} (g0 : ElemsOf (PySem.strKind P w) es1.toList) (g1 : ∀ e ∈ es1.toList, ∃ x tk, e.2 = Value.str x tk ∧ F x) (hc : es1.size ≤ c) (h0 : 0 < es1.size)
    (hb1 : es1.size < scanBound) (hf2 : t2.fits es1.size = true) (hr : Ris t2.place.toList) (hl : w.params.followText "set-order" = true ∨ t2.led = true) {wasDummy : Bool} {R : Option Bool → Shared → Prop}
    (hR : ∀ h', Heap.SameBut a s.heap h' → SetT P w h' a F c → R (some true) { s with heap := h' }) :
    wpAny (model P w) A (do
        storeSet a es1 t2
        if (!wasDummy && t2.tooFull) = true then do
            g (relayAll t2 es1 (SetTable.grown es1.size)).2.2
            storeSet a (relayAll t2 es1 (SetTable.grown es1.size)).1 (relayAll t2 es1 (SetTable.grown es1.size)).2.1
            pure (some true)
          else pure (some true)) R E s := by
  refine wpAny_bind (wpAny_storeSet_of ho hd ?_ (fits_of_scanBound hb1))
  have ho1 := store_at (es' := es1) (t' := t2) ho hd
  have sb1 := Heap.SameBut.update s.heap a (Obj.putSet es1 t2)
  split
  · have pm := relayAll_perm t2 es1 (SetTable.grown es1.size)
    have hf3 := relayAll_fits t2 es1 (SetTable.grown es1.size)
    have hr3 := relayAll_ris t2 es1 (SetTable.grown es1.size)
    have hl3 := relayAll_led t2 es1 (SetTable.grown es1.size)
    generalize relayAll t2 es1 (SetTable.grown es1.size) = Z at pm hf3 hr3 hl3 ⊢
    obtain ⟨es2, t3, gave⟩ := Z
    dsimp only at pm hf3 hr3 hl3 ⊢
    have hsz : es2.size = es1.size := by rw [← Array.length_toList, pm.length_eq, Array.length_toList]
    refine wpAny_bind (hg _ _ _ ?_)
    refine wpAny_bind (wpAny_storeSet_of ho1 rfl ?_ (fits_of_scanBound (by rw [hsz]; exact hb1)))
    have ho2 := store_at (es' := es2) (t' := t3) ho1 rfl
    exact wpAny_pure (hR _ (sb1.trans (Heap.SameBut.update _ a _)) ⟨_, es2, _, t3, ho2, hex, rfl, fun e he => g0 e (pm.mem_iff.mp he), fun e he => g1 e (pm.mem_iff.mp he), by rw [hsz]; exact hb1, hf3, by rw [hsz]; exact hc, fun _ => by rw [hsz]; exact h0, hr3,
      hl.imp id fun z => by rw [hl3]; exact z⟩)
  · exact wpAny_pure (hR _ sb1 ⟨_, es1, _, t2, ho1, hex, rfl, g0, g1, hb1, hf2, hc, fun _ => h0, hr, hl⟩)
theorem setT_add {x : Str} {tk : Tok} {Q : Bool → Shared → Prop} (R : SetT P w s.heap a F c) (hx : F x) (room : c + 1 < scanBound)
    (hQ : ∀ b h', Heap.SameBut a s.heap h' → SetT P w h' a F (c + 1) → Q b { s with heap := h' }) :
    wpAny (model P w) A (setAddHashed a (.str x tk) ((PySem.strKind P w).hash x)) Q E s := by
  obtain ⟨o, es, ep, t, ho, hex, hd, hel, g, hb, hf, hn, hn0, hr, hl⟩ := R
  have hkey : (PySem.strKind P w).is x (.str x tk) = true := strKind_is P w x tk
  have hsc : (Value.str x tk).scannable = true := rfl
  unfold setAddHashed setAddHashedIn
  refine wpAny_holding (wpAny_bind (wpAny_setState_of ho hd hf ?_))
  dsimp only
  rw [byScan_of hsc hb hel]
  simp only [↓reduceIte]
  unfold setAddByScan
  refine wpAny_bind ?_
  refine wpAny_bind (wpAny_rule ?_)
  refine wpAny_bind (wpAny_setScan_of hkey ho hd hf hel ?_)
  cases hfi : List.findIdx? (fun e => (PySem.strKind P w).is x e.2) es.toList with
  | some j =>
    dsimp only
    obtain ⟨hj, _, _⟩ := List.findIdx?_eq_some_iff_getElem.mp hfi
    rw [Array.length_toList] at hj
    exact wpAny_pure (wpAny_pure (hQ _ s.heap (Heap.SameBut.refl a s.heap) ⟨o, es, ep, t, ho, hex, hd, hel, g, hb, hf, by omega, fun _ => by omega, hr, hl⟩))
  | none =>
    dsimp only
    have hgw : ∀ (b : Bool) {s₁ : Shared} {Q' : Unit → Shared → Prop}, Q' () s₁ → wpAny (model P w) A (match b with | true => rule "set.scan.the-table-gave-way" | false => pure ()) Q' E s₁ :=
      fun b s₁ Q' q => by cases b <;> first | exact wpAny_pure q | exact wpAny_rule q
    have pm := layNew_perm t es ((PySem.strKind P w).hash x) (.str x tk)
    have hf1 := layNew_fits t es ((PySem.strKind P w).hash x) (.str x tk)
    have hr1 := layNew_ris t es ((PySem.strKind P w).hash x) (.str x tk) hr
    have hl1 := layNew_led t es ((PySem.strKind P w).hash x) (.str x tk)
    generalize layNew t es ((PySem.strKind P w).hash x) (.str x tk) = Z at pm hf1 hr1 hl1 ⊢
    obtain ⟨es1, t1, wasDummy, gave⟩ := Z
    dsimp only at pm hf1 hr1 hl1 ⊢
    rw [Array.toList_push] at pm
    have pc : es1.toList.Perm (((PySem.strKind P w).hash x, Value.str x tk) :: es.toList) := pm.trans (List.perm_append_singleton _ _)
    have g1 : ∀ e ∈ es1.toList, ∃ x tk, e.2 = Value.str x tk ∧ F x := fun e he => by
      rcases List.mem_cons.mp (pc.mem_iff.mp he) with z | z
      · rw [z]; exact ⟨x, tk, rfl, hx⟩
      · exact g e z
    have g0 : ElemsOf (PySem.strKind P w) es1.toList := fun e he => by
      rcases List.mem_cons.mp (pc.mem_iff.mp he) with z | z
      · rw [z]; exact ⟨⟨x, hkey, rfl⟩, rfl⟩
      · exact hel e z
    have hsz : es1.size = es.size + 1 := by rw [← Array.length_toList, pc.length_eq, List.length_cons, Array.length_toList]
    have hb1 : es1.size < scanBound := by rw [hsz]; omega
    have hled : w.params.followText "set-order" = true ∨ t1.led = true := hl.imp id fun z => by rw [hl1]; exact z
    refine wpAny_bind (hgw _ ?_)
    split
    · refine wpAny_bind ?_
      rw [hashByValue_scannable 8 hsc]
      refine wpAny_pure ?_
      refine setT_tail (c := c + 1) (F := F) ?_ ho hex hd g0 g1 (by omega) (by omega) hb1 ?_ ?_ ?_ ?_
      · intro b s₁ Q' q; cases b <;> first | exact wpAny_pure q | exact wpAny_rule q
      · first | (split <;> first | exact hf1 | exact SetTable.fits_plain_off hf1) | exact hf1
      · first | (split <;> exact hr1) | exact hr1
      · first | (split <;> exact hled) | exact hled
      · intro h' sb r; dsimp only; exact wpAny_pure (hQ _ h' sb r)
    · refine wpAny_bind (wpAny_pure ?_)
      simp only [↓reduceIte]
      refine setT_tail (c := c + 1) (F := F) ?_ ho hex hd g0 g1 (by omega) (by omega) hb1 hf1 hr1 hled ?_
      · intro b s₁ Q' q; cases b <;> first | exact wpAny_pure q | exact wpAny_rule q
      · intro h' sb r; dsimp only; exact wpAny_pure (hQ _ h' sb r)
theorem setT_loop {I : Addr} {fp wr : List Addr} {G : Array GenState → Array GenState → Prop} {n : Nat} {Pv : Nat → Value → Prop} {St : Nat → Shared → Prop} {R : Result → Shared → Prop}
    (W : WalksS P w A.in1 I fp wr G n Pv St) (S : Addr) (hSf : S ∉ fp) (hb : n + 1 < scanBound) (hval : ∀ i v, Pv i v → ∃ x t, F x ∧ v = Value.str x t) :
    ∀ (k i : Nat) (s : Shared), n - i = k → i ≤ n → St i s → SetT P w s.heap S F i →
      (∀ s', Moved (S :: wr) G s s' → SetT P w s'.heap S F n → R (.ok (.ret .none)) s') →
      codeAny (model P w) A (.builtin "set.update.loop" ⟨[.ref S, .ref I], []⟩) R s := by
  have hSw : S ∉ wr := fun h => hSf (W.sub _ h)
  have hsub : ∀ b ∈ wr, b ∈ S :: wr := fun b hb => List.mem_cons_of_mem _ hb
  intro k
  induction k with
  | zero =>
    intro i s hk' hi hst hS hR
    have hin : i = n := by omega
    subst hin
    refine codeAny_builtin PyProof.Rows.F.entry_set_update_loop ?_
    rw [Around.under_plainId PyProof.Rows.F.plain_set_update_loop _]
    show wpAny _ A.in1 (pyNext (.ref I) >>= _) _ _ s
    refine wpAny_bind (W.done s _ _ hst fun s' hm => ?_)
    show wpAny _ A.in1 (ret Value.none) _ _ s'
    exact wpAny_pure (hR s' (hm.mono hsub) (hS.at fun o e => hm.heap S o hSw e))
  | succ k ih =>
    intro i s hk' hi hst hS hR
    have hlt : i < n := by omega
    refine codeAny_builtin PyProof.Rows.F.entry_set_update_loop ?_
    rw [Around.under_plainId PyProof.Rows.F.plain_set_update_loop _]
    show wpAny _ A.in1 (pyNext (.ref I) >>= _) _ _ s
    refine wpAny_bind (W.item i s _ _ hlt hst fun v s' hP hst' hm => ?_)
    obtain ⟨z, t, hz, rfl⟩ := hval i v hP
    have hS' : SetT P w s'.heap S F i := hS.at fun o e => hm.heap S o hSw e
    show wpAny _ A.in1 (holding [Value.str z t] (setAdd S (.str z t)) >>= _) _ _ s'
    refine wpAny_bind (wpAny_holding ?_)
    unfold setAdd
    refine wpAny_holding ?_
    refine wpAny_bind ((PySem.strKind P w).pyHash (k := z) (strKind_is _ _ _ _) ?_)
    refine setT_add (s := { s' with toks := s'.toks + 1 }) hS' hz (by omega) fun b h' hsb hS2 => ?_
    refine wpAny_pure ⟨plainId_quiet PyProof.Rows.F.plain_set_update_loop _, ih (i + 1) _ (by omega) hlt (W.frame _ s' _ _ hst' (Nat.le_succ _) fun b hb o e => ?_) hS2 fun s'' hm'' hS'' => ?_⟩
    · rw [hsb.2 b (fun h : b = S => hSf (by rw [← h]; exact hb))]; exact e
    · refine hR s'' (Moved.trans W.gtrans ((hm.mono hsub).then_heap (Nat.le_succ _) fun b o hb e => ?_) hm'') hS''
      rw [hsb.2 b (fun h : b = S => hb (by rw [h]; exact List.mem_cons_self))]; exact e
set_option maxHeartbeats 8000000 in
theorem call_set_txt {l : Addr} {items : Array Value} {Q : Value → Shared → Prop} (hh : A.handled = none) (hl : s.heap.IsList l items) (hit : ∀ (i : Nat) (v : Value), items[i]? = some v → ∃ x t, F x ∧ v = Value.str x t) (hb : items.size + 1 < scanBound)
    (h : ∀ (h' : Heap) (tk : Nat), SetT P w h' s.heap.objs.size F items.size → (∀ b o, s.heap.get? b = some o → h'.get? b = some o) → Q (.ref s.heap.objs.size) { s with heap := h', toks := tk }) :
    wpAny (model P w) A (call (.type "set") [.ref l]) Q E s := by
  obtain ⟨c0, tl, hmro⟩ := PySem.F.called_set.mro
  have hmade := PySem.F.called_set.made
  have hsub := PySem.F.called_set.sub
  refine wpAny_call (codeAny_of_tree ?_)
  show wpAny _ _ (callAny (.type "set") _) _ _ _
  refine wpAny_pure ⟨Code.quiet_builtin _ (by decide +kernel), codeAny_builtin PySem.F.entry_type_call ?_⟩
  rw [Around.under_plain (weight_type_call_type "set" [.ref l] []) rfl]
  have h1 := PySem.F.called_set.notType
  have h2 := PySem.F.called_set.canCreate
  have hct := PySem.F.typeCall_set_1 (.ref l)
  repeat (any_goals (first | assumption | wp_step))
  refine codeAny_mono (code_set_led1 (.ref l) (E := E) (Q₁ := fun obj s₁ => obj = .ref s.heap.objs.size ∧ s₁ = { s with heap := s.heap.push { cls := .type "set", dict := none, data := .set #[] 0 (.fresh 0 0 (!w.params.followText "set-order")) } }) ⟨rfl, rfl⟩) fun r s₁ hr => ?_
  cases r with
  | error e => exact hr
  | ok fl =>
    cases fl with
    | ret obj =>
      obtain ⟨rfl, rfl⟩ := hr
      have hS : (s.heap.push { cls := .type "set", dict := none, data := .set #[] 0 (.fresh 0 0 (!w.params.followText "set-order")) }).get? s.heap.objs.size = some { cls := .type "set", dict := none, data := .set #[] 0 (.fresh 0 0 (!w.params.followText "set-order")) } := Heap.get?_push_size _ rfl
      have hT : Shared.TypeIs { s with heap := s.heap.push { cls := .type "set", dict := none, data := .set #[] 0 (.fresh 0 0 (!w.params.followText "set-order")) } } (.ref s.heap.objs.size) "set" := ⟨_, hS, rfl⟩
      have hli := PySem.F.called_set.init.lookup
      have hbi := PySem.F.called_set.init.bind (.ref s.heap.objs.size)
      repeat (any_goals (first | assumption | wp_step))
      refine codeAny_mono (codeAny_call_builtin (R := wants (fun r s₂ => r = .none ∧ ∃ h' tk, s₂ = { s with heap := h', toks := tk } ∧ SetT P w h' s.heap.objs.size F items.size ∧
          (∀ b o, s.heap.get? b = some o → h'.get? b = some o)) E) PySem.F.called_set.init.plain PySem.F.entry_set_init (check_set_init_1 hT ?_)) fun r₂ s₂ hr₂ => ?_
      · obtain ⟨ol, hol, hcl, nl, hdl⟩ := hl
        obtain ⟨ocls, odict, odata, oslots⟩ := ol
        simp only at hcl hdl
        subst hcl; subst hdl
        have hol' : (s.heap.push { cls := .type "set", dict := none, data := .set #[] 0 (.fresh 0 0 (!w.params.followText "set-order")) }).get? l = some { cls := .type "list", dict := odict, data := .seq items nl, slots := oslots } := Heap.get?_push_of_some _ hol
        have hsls := PySem.F.sub_list_set
        have hslf := PySem.F.sub_list_frozenset
        have hne : (Value.type "list" == Value.type "dict") = false := by decide
        have hl1 : (s.heap.push { cls := .type "set", dict := none, data := .set #[] 0 (.fresh 0 0 (!w.params.followText "set-order")) }).IsList l items := ⟨_, hol', rfl, nl, rfl⟩
        unfold Builtin.«set.__init__» noKeywords Builtin.Frozenset.updateFrom
        generalize hPI : pyIter = PI
        wp_walk
        subst hPI
        refine wpAny_pyIter_list hl1 ?_
        refine wpAny_bind (wpAny_runValue ?_)
        have hlS : l < s.heap.objs.size := Heap.lt_size hol
        have hh3 : A.in1.in1.in1.handled = none := by simp [hh]
        have hneI : l ≠ (s.heap.push { cls := .type "set", dict := none, data := .set #[] 0 (.fresh 0 0 (!w.params.followText "set-order")) }).objs.size := by
          rw [Heap.size_push]; exact Nat.ne_of_lt (Nat.lt_succ_of_lt hlS)
        have hSf : s.heap.objs.size ∉ [(s.heap.push { cls := .type "set", dict := none, data := .set #[] 0 (.fresh 0 0 (!w.params.followText "set-order")) }).objs.size, l] := by
          rw [Heap.size_push]; simp only [List.mem_cons, List.mem_singleton, List.not_mem_nil, or_false, not_or]
          exact ⟨Nat.ne_of_lt (Nat.lt_succ_self _), Nat.ne_of_gt hlS⟩
        refine setT_loop ((Walks.list hh3 _ l hneI items).toS) s.heap.objs.size
          hSf hb hit (items.size - 0) 0 _ (by omega) (Nat.zero_le _)
          ⟨⟨_, Heap.get?_push_size _ rfl, rfl, rfl⟩, (hl1.push _)⟩ ?hS0 ?hR
        case hS0 => exact setT_new (Heap.get?_push_of_some _ hS)
        case hR =>
          intro s' hm hS'
          obtain ⟨h', g2, d', tk', os'⟩ := s'
          have eg : g2 = s.gens := hm.gens
          have ed : d' = s.drawn := hm.drawn
          have eo : os' = s.os := hm.os
          subst eg; subst ed; subst eo
          show wpAny _ _ _ _ _ _
          refine wpAny_pure ?_
          show wpAny _ _ (ret Value.none) _ _ _
          refine wpAny_pure ⟨rfl, h', tk', rfl, hS', fun b o e => ?_⟩
          have hb0 : b < s.heap.objs.size := Heap.lt_size e
          have hb1 : b ≠ s.heap.objs.size := Nat.ne_of_lt hb0
          have hb2 : b ≠ (s.heap.push { cls := .type "set", dict := none, data := .set #[] 0 (.fresh 0 0 (!w.params.followText "set-order")) }).objs.size := by
            rw [Heap.size_push]; exact Nat.ne_of_lt (Nat.lt_succ_of_lt hb0)
          exact hm.heap b o (by simp only [List.mem_cons, List.mem_singleton, List.not_mem_nil, or_false, not_or]; exact ⟨hb1, hb2⟩) (Heap.get?_push_of_some _ (Heap.get?_push_of_some _ e))
      · cases r₂ with
        | error e => exact hr₂
        | ok fl₂ =>
          cases fl₂ with
          | ret r =>
            obtain ⟨rfl, h', tk, rfl, hS', hk'⟩ := hr₂
            repeat (any_goals (first | assumption | wp_step))
            exact h _ _ hS' hk'
          | _ => exact hr₂.elim
    | _ => exact hr.elim
end
/-- the set at a, as the layer tracks it -/
def SetTO (P : Program) (w : World) (a : Addr) (F : Str → Prop) (c : Nat) : HO := .ext fun h => SetT P w h a F c
section
variable {X : Cx}
theorem setTO_ok {w : World} {P : Program} {H : Hp} {h : Heap} {a : Addr} {F : Str → Prop} {c : Nat} (R : SetT P w h a F c) : ObjOk P w H h a (SetTO P w a F c) := by
  have ⟨o, _, _, _, ho, _⟩ := R
  exact ⟨R, ⟨o, ho⟩, fun h1 h2 p k => SetT.at p k⟩
/-- set(xs) -/
def rSetTxt (K : PySem.W.Frag) (P : Program) (w : World) : List V → Hp → VK → Prop := fun vs H Q => ∃ (a : Addr) (xs : List Str), vs = [.ref a] ∧ SqL K H a (xs.map V.str) ∧ xs.length < 64 ∧ ∀ p, H p = none → Q (.ref p) (upd H p (SetTO P w p (· ∈ xs) xs.length))
theorem cr_setTxt (hc : X.calm = true) : CallR X (.type "set") (rSetTxt X.K X.prog X.w) := by
  intro pins s σ H vs us Q I r h
  obtain ⟨a, xs, rfl, hs, h64, q⟩ := h
  obtain rfl := Vals.ref1 r
  obtain ⟨its, rv, pl, hz⟩ := I.list hs
  have hlen := rv.length
  rw [List.length_map] at hlen
  have hsz : its.toArray.size = xs.length := by rw [List.size_toArray]; exact hlen.symm
  refine call_set_txt (F := (· ∈ xs)) (I.ok.hd hc) pl.isList (fun i v hv => ?_) (by rw [hsz]; unfold scanBound; omega) fun h' tk R k => ?_
  · obtain ⟨t, e⟩ := SS.strs_at (strsAre_of rv) i v (by rw [← Array.getElem?_toList] at hv; exact hv)
    have hi : i < xs.length := by
      have := (Array.getElem?_eq_some_iff.mp hv).1
      omega
    refine ⟨_, t, ?_, e⟩
    rw [List.getD_eq_getElem?_getD, List.getElem?_eq_getElem hi]
    exact List.getElem_mem hi
  · rw [hsz] at R
    exact ⟨.ref s.heap.objs.size, _, I.laid (t' := tk) k (Nat.le_refl _) (setTO_ok R), rfl, q _ (I.hok.fresh (Nat.le_refl _))⟩
/-- sorted(that set) -/
def rSortTxt (P : Program) (w : World) : List V → Hp → VK → Prop := fun vs H Q => ∃ (a : Addr) (F : Str → Prop) (c : Nat), vs = [.ref a] ∧ H a = some (SetTO P w a F c) ∧ 0 < c ∧ c < 64 ∧
  ∀ (ys : List Str) (p : Addr), 0 < ys.length → ys.length ≤ c → (∀ y ∈ ys, F y) → H p = none → p ≠ sysModules → Q (.ref p) (upd H p (.lst (ys.map V.str)))
theorem cr_sortTxt (hc : X.calm = true) : CallR X (.builtin "sorted") (rSortTxt X.prog X.w) := by
  intro pins s σ H vs us Q I r h
  obtain ⟨a, F, c, rfl, ha, hc0, h64, q⟩ := h
  obtain rfl := Vals.ref1 r
  obtain ⟨o, es, ep, t, ho, hex, hd, hel, g, hb, hf, hn, hn0, hr, hl⟩ := (show ObjOk X.prog X.w H s.heap a (SetTO X.prog X.w a F c) from I.hok a _ ha).1
  refine Calls.call_function_entry PyProof.Rows.kind_sorted PyProof.Rows.plain_sorted PyProof.Rows.entry_sorted (PyProof.Rows.args_sorted1 _) ?_
  unfold Builtin.«sorted»
  refine wpAny_bind (m := checkCount "sorted" 1 1 _) (wpAny_pure ?_)
  refine wpAny_bind (collect_set (show X.A.in1.handled = none from I.ok.hd hc) ⟨o, ho, hex.1, hd⟩ hf hb hr hl fun s1 vs k1 hz1 g1 o1 pm => ?_)
  have hlv : vs.length = es.size := by rw [pm.length_eq, List.length_map, Array.length_toList]
  have hmem : ∀ v ∈ vs, ∃ x tk, v = Value.str x tk ∧ F x := fun v hv => by
    obtain ⟨e, he, rfl⟩ := List.mem_map.mp (pm.mem_iff.mp hv)
    exact g e he
  obtain ⟨zs, hS, hF⟩ : ∃ zs : List Str, StrsAre vs zs ∧ ∀ z ∈ zs, F z := by
    clear pm hlv
    induction vs with
    | nil => exact ⟨[], .nil, fun z hz => by simp at hz⟩
    | cons v r ih =>
      obtain ⟨x, tk, rfl, hx⟩ := hmem v List.mem_cons_self
      obtain ⟨zs, a, b⟩ := ih fun u hu => hmem u (List.mem_cons_of_mem _ hu)
      exact ⟨x :: zs, .cons x tk a, fun z hz => (List.mem_cons.mp hz).elim (fun e => by rw [e]; exact hx) (b z)⟩
  have hlz : zs.length = vs.length := (StrsAre.len_eq hS).symm
  refine wpAny_bind (wpAny_newList ?_ (by rw [hlv, sizeLine_eq]; omega))
  have hoL : (s1.heap.push (seqObj "list" vs.toArray 0)).get? s1.heap.objs.size = some (seqObj "list" vs.toArray 0) := Heap.get?_push_size _ rfl
  refine wpAny_bind (wpAny_holding (wpAny_call_entry PyProof.Rows.slot_list_sort ⟨_, hoL, rfl⟩ PyProof.Rows.entry_list_sort
    (list_sort_treeK strKind_oneLt hoL hS.keysOf (fun v₁ v₂ rest e => keyKind_strs (by rw [← e]; exact hS)) (by rw [hlv]; omega) fun st' hp hs => ⟨_, rfl, ?_⟩) (PyProof.Rows.args_list_sort _)))
  obtain ⟨ys, b1, b2, b3⟩ := sorted_out_str hS hp hs
  obtain ⟨ep2, he'⟩ := PyProof.Rows.sortedHeap_at (vs := vs) (out := (arrOf st').map (·.2)) hoL
  refine wpAny_pure ⟨_, rfl, ?_⟩
  have hsz : s.heap.objs.size ≤ s1.heap.objs.size := hz1
  have kS : ∀ b u, s.heap.get? b = some u → (sortedHeap (s1.heap.push (seqObj "list" vs.toArray 0)) s1.heap.objs.size vs ((arrOf st').map (·.2))).get? b = some u := fun b u e => by
    have q := k1 b u e
    have hlt := Heap.lt_size q
    rw [PyProof.Rows.sortedHeap_old (Nat.ne_of_lt hlt) (by rw [size_push']; exact Nat.lt_succ_of_lt hlt)]
    exact Heap.get?_push_of_some _ q
  have hlen : (ys.map V.str).length ≤ sizeLine := by
    rw [List.length_map, b2.length_eq, hlz, hlv, sizeLine_eq]
    omega
  have hnone : H s1.heap.objs.size = none := I.hok.fresh hsz
  have J : Inv X pins σ (upd H s1.heap.objs.size (.lst (ys.map V.str))) { s with heap := sortedHeap (s1.heap.push (seqObj "list" vs.toArray 0)) s1.heap.objs.size vs ((arrOf st').map (·.2)), toks := s1.toks, drawn := s1.drawn } :=
    I.call (ch := []) (Un.laid kS hsz hnone) (I.hok.laid kS hsz ⟨hlen, ((arrOf st').map (·.2)).toList, ep2, vals_of_strs b1, by rw [Array.toArray_toList]; exact he'⟩) I.bare (fun _ z => nomatch z)
  have e : ({ s1 with heap := sortedHeap (s1.heap.push (seqObj "list" vs.toArray 0)) s1.heap.objs.size vs ((arrOf st').map (·.2)) } : Shared) = { s with heap := sortedHeap (s1.heap.push (seqObj "list" vs.toArray 0)) s1.heap.objs.size vs ((arrOf st').map (·.2)), toks := s1.toks, drawn := s1.drawn } := by
    cases s1
    cases s
    cases o1
    cases g1
    rfl
  show EP X pins σ Q _ { s1 with heap := sortedHeap (s1.heap.push (seqObj "list" vs.toArray 0)) s1.heap.objs.size vs ((arrOf st').map (·.2)) }
  rw [e]
  refine ⟨.ref s1.heap.objs.size, _, J, rfl, q ys _ ?_ ?_ (fun y hy => hF y (b2.mem_iff.mp hy)) hnone (Nat.ne_of_gt (Nat.lt_of_lt_of_le I.big hsz))⟩
  · rw [b2.length_eq, hlz, hlv]
    exact hn0 hc0
  · rw [b2.length_eq, hlz, hlv]
    exact hn
end
end Pk
-- ## PkHead
set_option Elab.async false
set_option linter.all false
set_option maxRecDepth 100000
set_option maxHeartbeats 0
/-! The text by places, what the top leaves, by names. -/
namespace Pk
open PySem PySem.Spec PyProof.Rows L2
abbrev FnP (K : PySem.W.Frag) (x : Str) (st : Stmt) (f : Addr) (fd : FuncData) : Prop := FunD K x x (defArgs st) (defBody st) (defScope st) [] [] f fd
/-- the i-th keyword-only default's object -/
def kwAt (f : Str × Option Str) (x : Str) (K : PySem.W.Frag) : Addr := match K.lookup (He.fAd K f) with
  | some ⟨_, _, .func fd, _⟩ => (match fd.kwdefaults with
    | .ref D => (match PySem.W.nsIn K D x with
      | some (some (.ref a)) => a
      | _ => 0)
    | _ => 0)
  | _ => 0
def emptyT (K : PySem.W.Frag) (a : Addr) : Bool := match K.lookup a with
  | some ⟨.type c, none, .seq its _, _⟩ => decide (c = "tuple") && its.isEmpty
  | _ => false
def d_has_own : He.DefD := ⟨("has_own", none), "has_own", "has_own", defArgs s_has_own, defBody s_has_own, defScope s_has_own, [], []⟩
def d_steps_for : He.DefD := ⟨("steps_for", none), "steps_for", "steps_for", defArgs s_steps_for, defBody s_steps_for, defScope s_steps_for, [], []⟩
def d_plainer : He.DefD := ⟨("plainer", none), "plainer", "plainer", defArgs s_plainer, defBody s_plainer, defScope s_plainer, [], []⟩
def d_reckoned : He.DefD := ⟨("reckoned", none), "reckoned", "reckoned", defArgs s_reckoned, defBody s_reckoned, defScope s_reckoned, [], []⟩
def d_parts_of : He.DefD := ⟨("parts_of", none), "parts_of", "parts_of", defArgs s_parts_of, defBody s_parts_of, defScope s_parts_of, [], []⟩
def d_all_steps : He.DefD := ⟨("all_steps", none), "all_steps", "all_steps", defArgs s_all_steps, defBody s_all_steps, defScope s_all_steps, [], []⟩
def d_depth : He.DefD := ⟨("depth", none), "depth", "depth", defArgs s_depth, defBody s_depth, defScope s_depth, [], []⟩
def d_fits : He.DefD := ⟨("fits", none), "fits", "fits", defArgs s_fits, defBody s_fits, defScope s_fits, [], [("most", .int 16), ("deep", .int 5)]⟩
def d_do_read : He.DefD := ⟨("do_read", none), "do_read", "do_read", defArgs s_do_read, defBody s_do_read, defScope s_do_read, [], []⟩
def d_do_write : He.DefD := ⟨("do_write", none), "do_write", "do_write", defArgs s_do_write, defBody s_do_write, defScope s_do_write, [], []⟩
def d_do_let : He.DefD := ⟨("do_let", none), "do_let", "do_let", defArgs s_do_let, defBody s_do_let, defScope s_do_let, [], []⟩
def d_do_tell : He.DefD := ⟨("do_tell", none), "do_tell", "do_tell", defArgs s_do_tell, defBody s_do_tell, defScope s_do_tell, [], []⟩
def d_do_if : He.DefD := ⟨("do_if", none), "do_if", "do_if", defArgs s_do_if, defBody s_do_if, defScope s_do_if, [], []⟩
def d_do_inner : He.DefD := ⟨("do_inner", none), "do_inner", "do_inner", defArgs s_do_inner, defBody s_do_inner, defScope s_do_inner, [], []⟩
def d_do_either : He.DefD := ⟨("do_either", none), "do_either", "do_either", defArgs s_do_either, defBody s_do_either, defScope s_do_either, [], []⟩
def d_do_out : He.DefD := ⟨("do_out", none), "do_out", "do_out", defArgs s_do_out, defBody s_do_out, defScope s_do_out, [], []⟩
def d_do_retry : He.DefD := ⟨("do_retry", none), "do_retry", "do_retry", defArgs s_do_retry, defBody s_do_retry, defScope s_do_retry, [], []⟩
def d_walked : He.DefD := ⟨("walked", none), "walked", "walked", defArgs s_walked, defBody s_walked, defScope s_walked, [], [("slots", .adr (kwAt ("walked", none) "slots"))]⟩
def d_law_feed : He.DefD := ⟨("_law_feed", none), "_law_feed", "_law_feed", defArgs s_law_feed, defBody s_law_feed, defScope s_law_feed, [], []⟩
def d_law_draw : He.DefD := ⟨("_law_draw", none), "_law_draw", "_law_draw", defArgs s_law_draw, defBody s_law_draw, defScope s_law_draw, [], []⟩
def d_law_names : He.DefD := ⟨("_law_names", none), "_law_names", "_law_names", defArgs s_law_names, defBody s_law_names, defScope s_law_names, [], []⟩
def d_law_number : He.DefD := ⟨("_law_number", none), "_law_number", "_law_number", defArgs s_law_number, defBody s_law_number, defScope s_law_number, [], []⟩
def d_law_sum : He.DefD := ⟨("_law_sum", none), "_law_sum", "_law_sum", defArgs s_law_sum, defBody s_law_sum, defScope s_law_sum, [], []⟩
def d_law_step : He.DefD := ⟨("_law_step", none), "_law_step", "_law_step", defArgs s_law_step, defBody s_law_step, defScope s_law_step, [], []⟩
def d_law_program : He.DefD := ⟨("_law_program", none), "_law_program", "_law_program", defArgs s_law_program, defBody s_law_program, defScope s_law_program, [], []⟩
def d_law_scene : He.DefD := ⟨("_law_scene", none), "_law_scene", "_law_scene", defArgs s_law_scene, defBody s_law_scene, defScope s_law_scene, [], []⟩
def d_law_any : He.DefD := ⟨("_law_any", none), "_law_any", "_law_any", defArgs s_law_any, defBody s_law_any, defScope s_law_any, [], []⟩
def d_law_own : He.DefD := ⟨("_law_own", none), "_law_own", "_law_own", defArgs s_law_own, defBody s_law_own, defScope s_law_own, [], []⟩
def d_law_place : He.DefD := ⟨("_law_place", none), "_law_place", "_law_place", defArgs s_law_place, defBody s_law_place, defScope s_law_place, [], []⟩
def d_law_turned : He.DefD := ⟨("_law_turned", none), "_law_turned", "_law_turned", defArgs s_law_turned, defBody s_law_turned, defScope s_law_turned, [], []⟩
def d_law_due : He.DefD := ⟨("_law_due", none), "_law_due", "_law_due", defArgs s_law_due, defBody s_law_due, defScope s_law_due, [], []⟩
def d_law_count : He.DefD := ⟨("_law_count", none), "_law_count", "_law_count", defArgs s_law_count, defBody s_law_count, defScope s_law_count, [], []⟩
def d_law_fixed_ifs : He.DefD := ⟨("_law_fixed_ifs", none), "_law_fixed_ifs", "_law_fixed_ifs", defArgs s_law_fixed_ifs, defBody s_law_fixed_ifs, defScope s_law_fixed_ifs, [], []⟩
def d_law_right : He.DefD := ⟨("_law_right", none), "_law_right", "_law_right", defArgs s_law_right, defBody s_law_right, defScope s_law_right, [], []⟩
def d_law : He.DefD := ⟨("law", none), "law", "law", defArgs s_law, defBody s_law, defScope s_law, [], []⟩
def dw_init : He.DefD := ⟨("Walk", some "__init__"), "__init__", "Walk.__init__", defArgs sw_init, defBody sw_init, defScope sw_init, [], []⟩
def dw_kept : He.DefD := ⟨("Walk", some "kept"), "kept", "Walk.kept", defArgs sw_kept, defBody sw_kept, defScope sw_kept, [], []⟩
def dw_back_to : He.DefD := ⟨("Walk", some "back_to"), "back_to", "Walk.back_to", defArgs sw_back_to, defBody sw_back_to, defScope sw_back_to, [], []⟩
def dw_seen : He.DefD := ⟨("Walk", some "seen"), "seen", "Walk.seen", defArgs sw_seen, defBody sw_seen, defScope sw_seen, [], []⟩
def dw_go : He.DefD := ⟨("Walk", some "go"), "go", "Walk.go", defArgs sw_go, defBody sw_go, defScope sw_go, [], []⟩
def fn1 : List He.DefD := [d_has_own, d_steps_for, d_plainer, d_reckoned, d_parts_of, d_all_steps, d_depth, d_fits, d_do_read, d_do_write, d_do_let, d_do_tell, d_do_if, d_do_inner, d_do_either, d_do_out, d_do_retry, d_walked, d_law_feed, d_law_draw, d_law_names, d_law_number]
def fn2 : List He.DefD := [d_law_sum, d_law_step, d_law_program, d_law_scene, d_law_any, d_law_own, d_law_place, d_law_turned, d_law_due, d_law_count, d_law_fixed_ifs, d_law_right, d_law, dw_init, dw_kept, dw_back_to, dw_seen, dw_go]
def fn : List He.DefD := fn1 ++ fn2
def fa1 : List He.Fa := [.glo "has_own", .glo "steps_for", .glo "plainer", .glo "reckoned", .glo "parts_of", .glo "all_steps", .glo "depth", .glo "fits", .glo "do_read", .glo "do_write", .glo "do_let", .glo "do_tell", .glo "do_if", .glo "do_inner", .glo "do_either", .glo "do_out", .glo "do_retry", .glo "walked", .glo "_law_feed", .glo "_law_draw", .glo "_law_names", .glo "_law_number", .glo "_law_sum", .glo "_law_step", .glo "_law_program", .glo "_law_scene", .glo "_law_any", .glo "_law_own", .glo "_law_place", .glo "_law_turned", .glo "_law_due", .glo "_law_count", .glo "_law_fixed_ifs", .glo "_law_right", .glo "law", .glo "Walk", .glo "WORDS", .glo "LEFT", .glo "PARTS", .free "any"]
def fa2 : List He.Fa := [.free "zip", .free "max", .free "len", .free "dict", .free "sorted", .free "tuple", .free "list", .free "range", .free "set", .free "repr", .cls "Walk", .mkr "Walk", .noat "Walk" "base", .noat "Walk" "given", .noat "Walk" "wrote", .noat "Walk" "spoke", .noat "Walk" "saw", .meth "Walk" "kept", .meth "Walk" "back_to", .meth "Walk" "seen", .meth "Walk" "go"]
def fa : List He.Fa := fa1 ++ fa2
def ts : List He.Tab := [(fun K => He.ga K "PARTS", ["read", "write", "let", "tell", "if", "inner", "out", "either", "retry"]), (fun K => He.ga K "WORDS", ["read", "write", "let", "tell", "if", "inner", "out", "either", "retry"]), (fun K => He.ga K "LEFT", ["end", "out", "retry"])]
def pairsP : List (Str × He.Dv) := [("read", .str "wc"), ("write", .str "cs"), ("let", .str "ws"), ("tell", .str "s"), ("if", .str "spp"), ("inner", .str "pp"), ("out", .str ""), ("either", .str "pp"), ("retry", .str "")]
def pairsW : List (Str × He.Dv) := [("read", .glo "do_read"), ("write", .glo "do_write"), ("let", .glo "do_let"), ("tell", .glo "do_tell"), ("if", .glo "do_if"), ("inner", .glo "do_inner"), ("out", .glo "do_out"), ("either", .glo "do_either"), ("retry", .glo "do_retry")]
def pairsL : List (Str × He.Dv) := [("end", .str "ended"), ("out", .str "dropped"), ("retry", .str "retries")]
def ex (K : PySem.W.Frag) : Bool := emptyT K (kwAt ("walked", none) "slots" K) && (He.valsB K (He.ga K "PARTS") pairsP && (He.valsB K (He.ga K "WORDS") pairsW && He.valsB K (He.ga K "LEFT") pairsL))
def loose1 : List Str := ["has_own", "steps_for", "plainer", "reckoned", "MOST_STEPS", "MOST_DEEP", "PARTS", "parts_of", "all_steps", "depth", "fits", "Walk", "do_read", "do_write", "do_let", "do_tell", "do_if", "do_inner", "do_either", "do_out"]
def loose2 : List Str := ["do_retry", "WORDS", "LEFT", "walked", "_law_feed", "_law_draw", "_law_names", "_law_number", "_law_sum", "_law_step", "_law_program", "_law_scene", "_law_any", "_law_own", "_law_place", "_law_turned", "_law_due", "_law_count", "_law_fixed_ifs", "_law_right"]
def loose : List Str := loose1 ++ loose2
abbrev R : PySem.W.OpenRow := PySem.W.OpenLaw.row PySem.Challenge.rw_cellpacts_k14_whole_plainer
abbrev hk : PySem.W.Hook := He.hookX 6 fa fn ts [] ex
def ob (s : PySem.W.SharedT) : He.AlX := He.obsX 6 fa fn ts [] ex (HandSHeadRun.getT s)
theorem ob_eq (s : PySem.W.SharedT) : ob s = hk.obs s.abs := He.obsX_eq (HandSHeadRun.getT_eq s)
theorem runF (w : World) : HandSHeadRun.RunEq R (PySem.W.view R.prog [45]) hk ob 4000 loose (w.withFollow "special-get-raises" false) := by
  intro os
  kernel_rfl
theorem runT (w : World) : HandSHeadRun.RunEq R (PySem.W.view R.prog [45]) hk ob 4000 loose (w.withFollow "special-get-raises" true) := by
  intro os
  kernel_rfl
theorem run (w : World) : HandSHeadRun.RunEq R (PySem.W.view R.prog [45]) hk ob 4000 loose w := PySem.W.byRow2 "special-get-raises" (P := fun w => HandSHeadRun.RunEq R (PySem.W.view R.prog [45]) hk ob 4000 loose w) runF runT w
end Pk
-- ## PkMath
set_option Elab.async false
set_option linter.all false
/-! The plain mathematics: programs as trees, the plainer one, the law's turns, the walk. No Python here. -/
namespace Pk
open PySem

inductive Op where
  | plus | minus | less
  deriving DecidableEq
/-- a sum -/
inductive Sm where
  | num (i : Int) | slot (x : Str) | bin (o : Op) (a b : Sm)
/-- a step -/
inductive Stp where
  | read (x : Str) (c : Nat) | write (c : Nat) (a : Sm) | lt (x : Str) (a : Sm) | tell (a : Sm)
  | ite (a : Sm) (p q : List Stp) | inner (p q : List Stp) | out | either (p q : List Stp) | retry
abbrev Prg := List Stp

/-! ### how many, how deep -/
mutual
def cntS : Stp → Nat
  | .ite _ p q => 1 + (cnt p + cnt q)
  | .inner p q => 1 + (cnt p + cnt q)
  | .either p q => 1 + (cnt p + cnt q)
  | _ => 1
def cnt : List Stp → Nat
  | [] => 0
  | s :: r => cntS s + cnt r
end
mutual
/-- the depth of the deepest program in a step -/
def depS : Stp → Nat
  | .ite _ p q => max (1 + dep0 p) (1 + dep0 q)
  | .inner p q => max (1 + dep0 p) (1 + dep0 q)
  | .either p q => max (1 + dep0 p) (1 + dep0 q)
  | _ => 0
def dep0 : List Stp → Nat
  | [] => 0
  | s :: r => max (depS s) (dep0 r)
end
def dep (p : List Stp) : Nat := 1 + dep0 p

theorem cnt_append (p q : List Stp) : cnt (p ++ q) = cnt p + cnt q := by
  induction p with
  | nil => simp [cnt]
  | cons s r ih => simp only [List.cons_append, cnt, ih]; omega
theorem dep0_append (p q : List Stp) : dep0 (p ++ q) = max (dep0 p) (dep0 q) := by
  induction p with
  | nil => simp [dep0]
  | cons s r ih => simp only [List.cons_append, dep0, ih]; omega
theorem cntS_pos (s : Stp) : 1 ≤ cntS s := by cases s <;> simp [cntS] <;> omega
theorem len_le_cnt (p : List Stp) : p.length ≤ cnt p := by
  induction p with
  | nil => simp [cnt]
  | cons s r ih => have := cntS_pos s; simp only [List.length_cons, cnt]; omega

/-! ### a word of what stands around: e = false: out of inner; e = true: retry of either -/
mutual
def ownS (e : Bool) : Stp → Bool
  | .out => !e
  | .retry => e
  | .ite _ p q => own e p || own e q
  | .inner p q => (e && own e p) || own e q
  | .either p q => (!e && own e p) || own e q
  | _ => false
def own (e : Bool) : List Stp → Bool
  | [] => false
  | s :: r => ownS e s || own e r
end
theorem own_append (e : Bool) (p q : List Stp) : own e (p ++ q) = (own e p || own e q) := by
  induction p with
  | nil => simp [own]
  | cons s r ih => simp only [List.cons_append, own, ih, Bool.or_assoc]

/-! ### what holds of all steps within: φ of the small steps, ψ of the sums of ifs -/
section
variable (φ : Stp → Prop) (ψ : Sm → Prop)
mutual
def allS : Stp → Prop
  | .ite a p q => ψ a ∧ allP p ∧ allP q
  | .inner p q => allP p ∧ allP q
  | .either p q => allP p ∧ allP q
  | .out => True
  | .retry => True
  | s => φ s
def allP : List Stp → Prop
  | [] => True
  | s :: r => allS s ∧ allP r
end
theorem allP_append (p q : List Stp) : allP φ ψ (p ++ q) ↔ allP φ ψ p ∧ allP φ ψ q := by
  induction p with
  | nil => simp [allP]
  | cons s r ih => simp only [List.cons_append, allP, ih, and_assoc]
end

/-! ### the plainer one -/
def stops : Stp → Bool
  | .out => true
  | .retry => true
  | _ => false
/-- whether a program ends by an out or a retry -/
def ends (p : List Stp) : Bool := match p.getLast? with
  | some s => stops s
  | none => false
/-- what stands behind h -/
def follow (h r : List Stp) : List Stp := if ends h then h else h ++ r
def isNum : Sm → Option Int
  | .num i => some i
  | _ => none
mutual
def plS : Stp → List Stp
  | .ite a p q => match isNum a with
    | some i => if 0 < i then pl p else pl q
    | none => [.ite a (pl p) (pl q)]
  | .inner p q => if own false (pl p) then [.inner (pl p) (pl q)] else pl p
  | .either p q => if own true (pl p) then [.either (pl p) (pl q)] else pl p
  | s => [s]
def pl : List Stp → List Stp
  | [] => []
  | s :: r => follow (plS s) (pl r)
end
/-- the loop of the def: what was found, what is left -/
def plLoop : List Stp → List Stp → List Stp
  | found, [] => found
  | found, s :: r => if ends found then found else plLoop (found ++ plS s) r
theorem ends_append {h r : List Stp} (hr : r ≠ []) : ends (h ++ r) = ends r := by
  unfold ends
  rw [List.getLast?_append]
  cases e : r.getLast? with
  | none => exact absurd (List.getLast?_eq_none_iff.mp e) hr
  | some s => rfl
theorem follow_assoc (a b c : List Stp) : follow (follow a b) c = follow a (follow b c) := by
  unfold follow
  cases ha : ends a with
  | true => simp [ha]
  | false =>
    cases b with
    | nil => simp [ha, show ends ([] : List Stp) = false from rfl]
    | cons x y =>
      have hb : ends (a ++ x :: y) = ends (x :: y) := ends_append (by simp)
      cases he : ends (x :: y) with
      | true => simp [hb, he]
      | false => simp [hb, he]
theorem follow_nil (a : List Stp) : follow a [] = a := by unfold follow; split <;> simp
theorem plLoop_eq (r : List Stp) : ∀ found, plLoop found r = follow found (pl r) := by
  induction r with
  | nil => intro found; simp [plLoop, pl, follow_nil]
  | cons s r ih =>
    intro found
    unfold plLoop pl
    rw [ih]
    cases h : ends found with
    | true => simp [follow, h]
    | false =>
      rw [show found ++ plS s = follow found (plS s) by simp [follow, h]]
      simp [follow_assoc]
theorem pl_append (q r : List Stp) : pl (q ++ r) = follow (pl q) (pl r) := by
  induction q with
  | nil => simp [pl, follow, ends]
  | cons s q ih => simp only [List.cons_append, pl, ih, follow_assoc]

/-! ### the law's turns -/
def place : Stp → Option (List Stp)
  | .ite a p q => (isNum a).map fun i => if 0 < i then p else q
  | .inner p q => if own false p then none else some p
  | .either p q => if own true p then none else some p
  | _ => none
/-- the first loop -/
def turnA : List Stp → Option (List Stp)
  | [] => none
  | s :: r => if stops s && !r.isEmpty then some [s] else match place s with
    | some q => some (q ++ r)
    | none => (turnA r).map (s :: ·)
mutual
/-- a step in which one program is turned -/
def turnS : Stp → Option Stp
  | .ite a p q => match (turnA p <|> turnB p) with
    | some p' => some (.ite a p' q)
    | none => (turnA q <|> turnB q).map fun q' => .ite a p q'
  | .inner p q => match (turnA p <|> turnB p) with
    | some p' => some (.inner p' q)
    | none => (turnA q <|> turnB q).map fun q' => .inner p q'
  | .either p q => match (turnA p <|> turnB p) with
    | some p' => some (.either p' q)
    | none => (turnA q <|> turnB q).map fun q' => .either p q'
  | _ => none
/-- the second loop -/
def turnB : List Stp → Option (List Stp)
  | [] => none
  | s :: r => match turnS s with
    | some s' => some (s' :: r)
    | none => (turnB r).map (s :: ·)
end
def turned (p : List Stp) : Option (List Stp) := turnA p <|> turnB p

/-! ### the walk, whatever a state is -/
inductive Left where
  | fin | out | retry
  deriving DecidableEq
structure Ops (σ : Type) where
  prim : Stp → σ → σ
  pos : Sm → σ → Bool
  back : σ → σ → σ
  num : ∀ a i s, isNum a = some i → pos a s = decide (0 < i)
def sq {σ : Type} (r : σ × Left) (k : σ → σ × Left) : σ × Left := match r with
  | (s, .fin) => k s
  | r => r
def alt {σ : Type} (w : Left) (r : σ × Left) (k : σ → σ × Left) : σ × Left := if r.2 = w then k r.1 else r
theorem sq_fin {σ : Type} (r : σ × Left) : sq r (fun s => (s, .fin)) = r := by
  obtain ⟨s, l⟩ := r
  cases l <;> rfl
theorem sq_assoc {σ : Type} (r : σ × Left) (k m : σ → σ × Left) : sq (sq r k) m = sq r fun s => sq (k s) m := by
  obtain ⟨s, l⟩ := r
  cases l <;> rfl
section
variable {σ : Type} (o : Ops σ)
mutual
def goS : Stp → σ → σ × Left
  | .out, s => (s, .out)
  | .retry, s => (s, .retry)
  | .ite a p q, s => if o.pos a s then go p s else go q s
  | .inner p q, s => alt .out (go p s) fun s' => go q (o.back s s')
  | .either p q, s => alt .retry (go p s) fun s' => go q (o.back s s')
  | st, s => (o.prim st s, .fin)
def go : List Stp → σ → σ × Left
  | [], s => (s, .fin)
  | st :: r, s => sq (goS st s) fun s' => go r s'
end
theorem go_append (p q : List Stp) : ∀ s, go o (p ++ q) s = sq (go o p s) fun s' => go o q s' := by
  induction p with
  | nil => intro s; rfl
  | cons st r ih =>
    intro s
    simp only [List.cons_append, go, ih, sq_assoc]
theorem go_one (st : Stp) (s : σ) : go o [st] s = goS o st s := by simp only [go, sq_fin]
theorem go_stop {st : Stp} (h : stops st = true) (r : List Stp) (s : σ) : go o (st :: r) s = go o [st] s := by
  cases st <;> simp [stops] at h <;> simp [go, goS, sq]

def wd : Bool → Left
  | false => .out
  | true => .retry
mutual
theorem goS_own (e : Bool) : ∀ (st : Stp) (s : σ), ownS e st = false → (goS o st s).2 ≠ wd e
  | .out, s, h => by cases e <;> simp [ownS] at h <;> simp [goS, wd]
  | .retry, s, h => by cases e <;> simp [ownS] at h <;> simp [goS, wd]
  | .ite a p q, s, h => by
    simp only [ownS, Bool.or_eq_false_iff] at h
    unfold goS
    split
    · exact go_own e p s h.1
    · exact go_own e q s h.2
  | .inner p q, s, h => by
    simp only [ownS, Bool.or_eq_false_iff] at h
    unfold goS alt
    split
    · exact go_own e q _ h.2
    · rename_i hn
      cases e with
      | false => exact hn
      | true => exact go_own true p s (by simpa using h.1)
  | .either p q, s, h => by
    simp only [ownS, Bool.or_eq_false_iff] at h
    unfold goS alt
    split
    · exact go_own e q _ h.2
    · rename_i hn
      cases e with
      | true => exact hn
      | false => exact go_own false p s (by simpa using h.1)
  | .read _ _, s, _ => by cases e <;> simp [goS, wd]
  | .write _ _, s, _ => by cases e <;> simp [goS, wd]
  | .lt _ _, s, _ => by cases e <;> simp [goS, wd]
  | .tell _, s, _ => by cases e <;> simp [goS, wd]
theorem go_own (e : Bool) : ∀ (p : List Stp) (s : σ), own e p = false → (go o p s).2 ≠ wd e
  | [], s, _ => by cases e <;> simp [go, wd]
  | st :: r, s, h => by
    simp only [own, Bool.or_eq_false_iff] at h
    have h1 := goS_own e st s h.1
    unfold go
    cases hg : goS o st s with
    | mk s' l =>
      rw [hg] at h1
      cases l with
      | fin => exact go_own e r s' h.2
      | out => exact h1
      | retry => exact h1
end
theorem alt_ne {w : Left} {r : σ × Left} {k : σ → σ × Left} (h : r.2 ≠ w) : alt w r k = r := if_neg h
end

/-! ### one turn -/
/-- what a turn keeps of a program -/
structure Keeps (p q : List Stp) : Prop where
  pl : pl q = pl p
  cnt : cnt q ≤ cnt p
  dep : dep0 q ≤ dep0 p
  own : ∀ e, own e p = false → own e q = false
  go : ∀ {σ : Type} (o : Ops σ) (s : σ), go o q s = go o p s
  all : ∀ φ ψ, allP φ ψ p → allP φ ψ q
theorem Keeps.refl (p : List Stp) : Keeps p p := ⟨rfl, Nat.le_refl _, Nat.le_refl _, fun _ h => h, fun _ _ => rfl, fun _ _ h => h⟩
theorem Keeps.trans {p q r : List Stp} (a : Keeps p q) (b : Keeps q r) : Keeps p r :=
  ⟨b.pl.trans a.pl, Nat.le_trans b.cnt a.cnt, Nat.le_trans b.dep a.dep, fun e h => b.own e (a.own e h), fun o s => (b.go o s).trans (a.go o s), fun φ ψ h => b.all φ ψ (a.all φ ψ h)⟩
/-- a turn: all is kept, and there is less -/
def Turn (p q : List Stp) : Prop := Keeps p q ∧ cnt q < cnt p
theorem Turn.app {p q : List Stp} (t : Turn p q) (r : List Stp) : Turn (p ++ r) (q ++ r) := by
  obtain ⟨⟨h1, h2, h3, h4, h5, h7⟩, h6⟩ := t
  refine ⟨⟨?_, ?_, ?_, ?_, ?_, ?_⟩, ?_⟩
  · rw [pl_append, pl_append, h1]
  · rw [cnt_append, cnt_append]; omega
  · rw [dep0_append, dep0_append]; omega
  · intro e h
    rw [own_append, Bool.or_eq_false_iff] at h ⊢
    exact ⟨h4 e h.1, h.2⟩
  · intro σ o s
    rw [go_append, go_append, h5]
  · intro φ ψ h
    rw [allP_append] at h ⊢
    exact ⟨h7 φ ψ h.1, h.2⟩
  · rw [cnt_append, cnt_append]; omega
theorem Turn.behind {p q : List Stp} (t : Turn p q) (s : Stp) : Turn (s :: p) (s :: q) := by
  obtain ⟨⟨h1, h2, h3, h4, h5, h7⟩, h6⟩ := t
  refine ⟨⟨?_, ?_, ?_, ?_, ?_, ?_⟩, ?_⟩
  · simp only [pl, h1]
  · simp only [cnt]; omega
  · simp only [dep0]; omega
  · intro e h
    simp only [own, Bool.or_eq_false_iff] at h ⊢
    exact ⟨h.1, h4 e h.2⟩
  · intro σ o s
    simp only [go, h5]
  · intro φ ψ h
    exact ⟨h.1, h7 φ ψ h.2⟩
  · simp only [cnt]; omega
theorem own_follow {e : Bool} {h r : List Stp} (a : own e h = false) (b : own e r = false) : own e (follow h r) = false := by
  unfold follow
  split
  · exact a
  · rw [own_append, a, b]; rfl
mutual
theorem own_plS (e : Bool) : ∀ s : Stp, ownS e s = false → own e (plS s) = false
  | .out, h => by simp [plS, own, h]
  | .retry, h => by simp [plS, own, h]
  | .read _ _, h => by simp [plS, own, h]
  | .write _ _, h => by simp [plS, own, h]
  | .lt _ _, h => by simp [plS, own, h]
  | .tell _, h => by simp [plS, own, h]
  | .ite a p q, h => by
    simp only [ownS, Bool.or_eq_false_iff] at h
    have hp := own_pl e p h.1
    have hq := own_pl e q h.2
    unfold plS
    split
    · split
      · exact hp
      · exact hq
    · simp [own, ownS, hp, hq]
  | .inner p q, h => by
    simp only [ownS, Bool.or_eq_false_iff] at h
    have hq := own_pl e q h.2
    unfold plS
    cases e with
    | false =>
      cases hc : own false (pl p) with
      | true => simp [own, ownS, hq]
      | false => simpa using hc
    | true =>
      have hp := own_pl true p (by simpa using h.1)
      split
      · simp [own, ownS, hp, hq]
      · exact hp
  | .either p q, h => by
    simp only [ownS, Bool.or_eq_false_iff] at h
    have hq := own_pl e q h.2
    unfold plS
    cases e with
    | true =>
      cases hc : own true (pl p) with
      | true => simp [own, ownS, hq]
      | false => simpa using hc
    | false =>
      have hp := own_pl false p (by simpa using h.1)
      split
      · simp [own, ownS, hp, hq]
      · exact hp
theorem own_pl (e : Bool) : ∀ p : List Stp, own e p = false → own e (pl p) = false
  | [], _ => rfl
  | s :: r, h => by
    simp only [own, Bool.or_eq_false_iff] at h
    unfold pl
    exact own_follow (own_plS e s h.1) (own_pl e r h.2)
end
theorem place_turn {s : Stp} {q : List Stp} (h : place s = some q) : Turn [s] q := by
  cases s with
  | ite a p p' =>
    simp only [place, Option.map_eq_some_iff] at h
    obtain ⟨i, hi, e⟩ := h
    subst e
    by_cases h0 : 0 < i
    · simp only [if_pos h0]
      refine ⟨⟨?_, ?_, ?_, ?_, ?_, ?_⟩, ?_⟩
      · simp only [pl, plS, hi, if_pos h0, follow_nil]
      · simp only [cnt, cntS]; omega
      · simp only [dep0, depS]; omega
      · intro e h; simp only [own, ownS, Bool.or_false, Bool.or_eq_false_iff] at h; exact h.1
      · intro σ o s
        rw [go_one]
        unfold goS
        rw [o.num a i s hi, decide_eq_true h0]
        rfl
      · intro φ ψ h
        exact h.1.2.1
      · simp only [cnt, cntS]; omega
    · simp only [if_neg h0]
      refine ⟨⟨?_, ?_, ?_, ?_, ?_, ?_⟩, ?_⟩
      · simp only [pl, plS, hi, if_neg h0, follow_nil]
      · simp only [cnt, cntS]; omega
      · simp only [dep0, depS]; omega
      · intro e h; simp only [own, ownS, Bool.or_false, Bool.or_eq_false_iff] at h; exact h.2
      · intro σ o s
        rw [go_one]
        unfold goS
        rw [o.num a i s hi, decide_eq_false h0]
        rfl
      · intro φ ψ h
        exact h.1.2.2
      · simp only [cnt, cntS]; omega
  | inner p p' =>
    simp only [place] at h
    split at h
    · cases h
    · rename_i hn
      have e : p = q := Option.some.inj h
      subst e
      have hf : own false p = false := by simpa using hn
      refine ⟨⟨?_, ?_, ?_, ?_, ?_, ?_⟩, ?_⟩
      · simp only [pl, plS, own_pl false p hf, follow_nil]; simp
      · simp only [cnt, cntS]; omega
      · simp only [dep0, depS]; omega
      · intro e h
        cases e with
        | false => exact hf
        | true => simpa [own, ownS] using (show own true p = false by simp [own, ownS] at h; exact h.1)
      · intro σ o s
        rw [go_one]
        unfold goS
        exact (alt_ne (w := .out) (go_own o false p s hf)).symm
      · intro φ ψ h
        exact h.1.1
      · simp only [cnt, cntS]; omega
  | either p p' =>
    simp only [place] at h
    split at h
    · cases h
    · rename_i hn
      have e : p = q := Option.some.inj h
      subst e
      have hf : own true p = false := by simpa using hn
      refine ⟨⟨?_, ?_, ?_, ?_, ?_, ?_⟩, ?_⟩
      · simp only [pl, plS, own_pl true p hf, follow_nil]; simp
      · simp only [cnt, cntS]; omega
      · simp only [dep0, depS]; omega
      · intro e h
        cases e with
        | true => exact hf
        | false => simpa [own, ownS] using (show own false p = false by simp [own, ownS] at h; exact h.1)
      · intro σ o s
        rw [go_one]
        unfold goS
        exact (alt_ne (w := .retry) (go_own o true p s hf)).symm
      · intro φ ψ h
        exact h.1.1
      · simp only [cnt, cntS]; omega
  | read _ _ => cases h
  | write _ _ => cases h
  | lt _ _ => cases h
  | tell _ => cases h
  | out => cases h
  | retry => cases h
theorem Turn.step {p q : List Stp} {s : Stp} (t : Turn [s] q) (r : List Stp) : Turn (s :: r) (q ++ r) := t.app r
theorem turnA_turn : ∀ {p q : List Stp}, turnA p = some q → Turn p q
  | [], _, h => by cases h
  | s :: r, q, h => by
    unfold turnA at h
    cases hc : (stops s && !r.isEmpty) with
    | true =>
      rw [hc] at h
      have e : [s] = q := Option.some.inj h
      subst e
      rw [Bool.and_eq_true] at hc
      obtain ⟨x, y, rfl⟩ : ∃ x y, r = x :: y := by
        cases r with
        | nil => simp at hc
        | cons x y => exact ⟨x, y, rfl⟩
      have hs : plS s = [s] := by cases s <;> simp [stops] at hc <;> rfl
      have he : ends [s] = true := hc.1
      have hx := cntS_pos x
      refine ⟨⟨?_, ?_, ?_, ?_, ?_, ?_⟩, ?_⟩
      · simp only [pl, hs, follow, he, if_true]
      · simp only [cnt]; omega
      · simp only [dep0]; omega
      · intro e h
        simp only [own, Bool.or_eq_false_iff] at h ⊢
        exact ⟨h.1, trivial⟩
      · intro σ o st
        exact (go_stop o hc.1 _ st).symm
      · intro φ ψ h
        exact ⟨h.1, trivial⟩
      · simp only [cnt]; omega
    | false =>
      rw [hc] at h
      simp only [Bool.false_eq_true, if_false] at h
      cases hp : place s with
      | some q' =>
        rw [hp] at h
        have e : q' ++ r = q := Option.some.inj h
        subst e
        exact (place_turn hp).app r
      | none =>
        rw [hp] at h
        simp only [Option.map_eq_some_iff] at h
        obtain ⟨q', hq, e⟩ := h
        subst e
        exact (turnA_turn hq).behind s
theorem Turn.ite1 {p p' : List Stp} (t : Turn p p') (a : Sm) (q : List Stp) : Turn [.ite a p q] [.ite a p' q] := by
  obtain ⟨⟨h1, h2, h3, h4, h5, h7⟩, h6⟩ := t
  refine ⟨⟨?_, ?_, ?_, ?_, ?_, ?_⟩, ?_⟩
  · simp only [pl, plS, h1]
  · simp only [cnt, cntS]; omega
  · simp only [dep0, depS]; omega
  · intro e h
    simp only [own, ownS, Bool.or_false, Bool.or_eq_false_iff] at h ⊢
    exact ⟨h4 e h.1, h.2⟩
  · intro σ o s
    simp only [go, goS, h5]
  · intro φ ψ h
    exact ⟨⟨h.1.1, h7 φ ψ h.1.2.1, h.1.2.2⟩, trivial⟩
  · simp only [cnt, cntS]; omega
theorem Turn.ite2 {q q' : List Stp} (t : Turn q q') (a : Sm) (p : List Stp) : Turn [.ite a p q] [.ite a p q'] := by
  obtain ⟨⟨h1, h2, h3, h4, h5, h7⟩, h6⟩ := t
  refine ⟨⟨?_, ?_, ?_, ?_, ?_, ?_⟩, ?_⟩
  · simp only [pl, plS, h1]
  · simp only [cnt, cntS]; omega
  · simp only [dep0, depS]; omega
  · intro e h
    simp only [own, ownS, Bool.or_false, Bool.or_eq_false_iff] at h ⊢
    exact ⟨h.1, h4 e h.2⟩
  · intro σ o s
    simp only [go, goS, h5]
  · intro φ ψ h
    exact ⟨⟨h.1.1, h.1.2.1, h7 φ ψ h.1.2.2⟩, trivial⟩
  · simp only [cnt, cntS]; omega
theorem Turn.inner1 {p p' : List Stp} (t : Turn p p') (q : List Stp) : Turn [.inner p q] [.inner p' q] := by
  obtain ⟨⟨h1, h2, h3, h4, h5, h7⟩, h6⟩ := t
  refine ⟨⟨?_, ?_, ?_, ?_, ?_, ?_⟩, ?_⟩
  · simp only [pl, plS, h1]
  · simp only [cnt, cntS]; omega
  · simp only [dep0, depS]; omega
  · intro e h
    simp only [own, ownS, Bool.or_false, Bool.or_eq_false_iff, Bool.and_eq_false_iff] at h ⊢
    exact ⟨h.1.imp id (h4 e), h.2⟩
  · intro σ o s
    simp only [go, goS, h5]
  · intro φ ψ h
    exact ⟨⟨h7 φ ψ h.1.1, h.1.2⟩, trivial⟩
  · simp only [cnt, cntS]; omega
theorem Turn.inner2 {q q' : List Stp} (t : Turn q q') (p : List Stp) : Turn [.inner p q] [.inner p q'] := by
  obtain ⟨⟨h1, h2, h3, h4, h5, h7⟩, h6⟩ := t
  refine ⟨⟨?_, ?_, ?_, ?_, ?_, ?_⟩, ?_⟩
  · simp only [pl, plS, h1]
  · simp only [cnt, cntS]; omega
  · simp only [dep0, depS]; omega
  · intro e h
    simp only [own, ownS, Bool.or_false, Bool.or_eq_false_iff] at h ⊢
    exact ⟨h.1, h4 e h.2⟩
  · intro σ o s
    simp only [go, goS, h5]
  · intro φ ψ h
    exact ⟨⟨h.1.1, h7 φ ψ h.1.2⟩, trivial⟩
  · simp only [cnt, cntS]; omega
theorem Turn.either1 {p p' : List Stp} (t : Turn p p') (q : List Stp) : Turn [.either p q] [.either p' q] := by
  obtain ⟨⟨h1, h2, h3, h4, h5, h7⟩, h6⟩ := t
  refine ⟨⟨?_, ?_, ?_, ?_, ?_, ?_⟩, ?_⟩
  · simp only [pl, plS, h1]
  · simp only [cnt, cntS]; omega
  · simp only [dep0, depS]; omega
  · intro e h
    simp only [own, ownS, Bool.or_false, Bool.or_eq_false_iff, Bool.and_eq_false_iff] at h ⊢
    exact ⟨h.1.imp id (h4 e), h.2⟩
  · intro σ o s
    simp only [go, goS, h5]
  · intro φ ψ h
    exact ⟨⟨h7 φ ψ h.1.1, h.1.2⟩, trivial⟩
  · simp only [cnt, cntS]; omega
theorem Turn.either2 {q q' : List Stp} (t : Turn q q') (p : List Stp) : Turn [.either p q] [.either p q'] := by
  obtain ⟨⟨h1, h2, h3, h4, h5, h7⟩, h6⟩ := t
  refine ⟨⟨?_, ?_, ?_, ?_, ?_, ?_⟩, ?_⟩
  · simp only [pl, plS, h1]
  · simp only [cnt, cntS]; omega
  · simp only [dep0, depS]; omega
  · intro e h
    simp only [own, ownS, Bool.or_false, Bool.or_eq_false_iff] at h ⊢
    exact ⟨h.1, h4 e h.2⟩
  · intro σ o s
    simp only [go, goS, h5]
  · intro φ ψ h
    exact ⟨⟨h.1.1, h7 φ ψ h.1.2⟩, trivial⟩
  · simp only [cnt, cntS]; omega
theorem orElse_some {α : Type} {a b : Option α} {x : α} (h : (a <|> b) = some x) : a = some x ∨ b = some x := by
  cases a with
  | some y => exact .inl h
  | none => exact .inr h
theorem orElse_none {α : Type} {a b : Option α} (h : (a <|> b) = none) : a = none ∧ b = none := by
  cases a with
  | some y => cases h
  | none => exact ⟨rfl, h⟩
mutual
theorem turnS_turn : ∀ {s s' : Stp}, turnS s = some s' → Turn [s] [s']
  | .ite a p q, s', h => by
    unfold turnS at h
    split at h
    · rename_i p' e
      cases h
      exact ((orElse_some e).elim turnA_turn turnB_turn).ite1 a q
    · obtain ⟨q', e, h⟩ := Option.map_eq_some_iff.mp h
      cases h
      exact ((orElse_some e).elim turnA_turn turnB_turn).ite2 a p
  | .inner p q, s', h => by
    unfold turnS at h
    split at h
    · rename_i p' e
      cases h
      exact ((orElse_some e).elim turnA_turn turnB_turn).inner1 q
    · obtain ⟨q', e, h⟩ := Option.map_eq_some_iff.mp h
      cases h
      exact ((orElse_some e).elim turnA_turn turnB_turn).inner2 p
  | .either p q, s', h => by
    unfold turnS at h
    split at h
    · rename_i p' e
      cases h
      exact ((orElse_some e).elim turnA_turn turnB_turn).either1 q
    · obtain ⟨q', e, h⟩ := Option.map_eq_some_iff.mp h
      cases h
      exact ((orElse_some e).elim turnA_turn turnB_turn).either2 p
  | .out, _, h => by cases h
  | .retry, _, h => by cases h
  | .read _ _, _, h => by cases h
  | .write _ _, _, h => by cases h
  | .lt _ _, _, h => by cases h
  | .tell _, _, h => by cases h
theorem turnB_turn : ∀ {p q : List Stp}, turnB p = some q → Turn p q
  | [], _, h => by cases h
  | s :: r, q, h => by
    unfold turnB at h
    split at h
    · rename_i s' e
      cases h
      exact (turnS_turn e).app r
    · obtain ⟨q', e, h⟩ := Option.map_eq_some_iff.mp h
      cases h
      exact (turnB_turn e).behind s
end
theorem turned_turn {p q : List Stp} (h : turned p = some q) : Turn p q := (orElse_some h).elim turnA_turn turnB_turn

/-! ### where no turn can be done -/
theorem map_none {α β : Type} {f : α → β} {o : Option α} (h : o.map f = none) : o = none := by
  cases o with
  | none => rfl
  | some x => cases h
mutual
theorem nf_S : ∀ s : Stp, turnS s = none → place s = none → plS s = [s]
  | .ite a p q, h, hp => by
    have ha : isNum a = none := map_none hp
    unfold turnS at h
    split at h
    · cases h
    · rename_i e
      obtain ⟨e1, e2⟩ := orElse_none e
      obtain ⟨e3, e4⟩ := orElse_none (map_none h)
      simp only [plS, ha, nf_P p e1 e2, nf_P q e3 e4]
  | .inner p q, h, hp => by
    have ho : own false p = true := by
      simp only [place] at hp
      split at hp
      · assumption
      · cases hp
    unfold turnS at h
    split at h
    · cases h
    · rename_i e
      obtain ⟨e1, e2⟩ := orElse_none e
      obtain ⟨e3, e4⟩ := orElse_none (map_none h)
      simp only [plS, nf_P p e1 e2, nf_P q e3 e4, ho, if_true]
  | .either p q, h, hp => by
    have ho : own true p = true := by
      simp only [place] at hp
      split at hp
      · assumption
      · cases hp
    unfold turnS at h
    split at h
    · cases h
    · rename_i e
      obtain ⟨e1, e2⟩ := orElse_none e
      obtain ⟨e3, e4⟩ := orElse_none (map_none h)
      simp only [plS, nf_P p e1 e2, nf_P q e3 e4, ho, if_true]
  | .out, _, _ => rfl
  | .retry, _, _ => rfl
  | .read _ _, _, _ => rfl
  | .write _ _, _, _ => rfl
  | .lt _ _, _, _ => rfl
  | .tell _, _, _ => rfl
theorem nf_P : ∀ p : List Stp, turnA p = none → turnB p = none → pl p = p
  | [], _, _ => rfl
  | s :: r, ha, hb => by
    unfold turnA at ha
    cases hc : (stops s && !r.isEmpty) with
    | true => rw [hc] at ha; cases ha
    | false =>
      rw [hc] at ha
      simp only [Bool.false_eq_true, if_false] at ha
      cases hp : place s with
      | some q => rw [hp] at ha; cases ha
      | none =>
        rw [hp] at ha
        have ha' := map_none ha
        unfold turnB at hb
        cases hs : turnS s with
        | some s' => rw [hs] at hb; cases hb
        | none =>
          rw [hs] at hb
          have hb' := map_none hb
          unfold pl
          rw [nf_S s hs hp, nf_P r ha' hb']
          unfold follow
          cases r with
          | nil => split <;> rfl
          | cons x y =>
            have hs : stops s = false := by simpa using hc
            rw [show ends [s] = stops s from rfl, hs]
            rfl
end
theorem turned_none {p : List Stp} (h : turned p = none) : pl p = p := nf_P p (orElse_none h).1 (orElse_none h).2

/-- ALL of plainer: nothing is lost by it -/
theorem pl_keeps (p : List Stp) : Keeps p (pl p) := by
  generalize hn : cnt p = n
  induction n using Nat.strongRecOn generalizing p with
  | _ n ih =>
    subst hn
    cases h : turned p with
    | none => rw [turned_none h]; exact .refl p
    | some q =>
      obtain ⟨k, l⟩ := turned_turn h
      have k2 := ih (cnt q) l q rfl
      rw [k.pl] at k2
      exact k.trans k2
theorem pl_pl (p : List Stp) : pl (pl p) = pl p := (pl_keeps p).pl
end Pk
-- ## PkBase
set_option Elab.async false
set_option linter.all false
set_option maxRecDepth 100000
set_option maxHeartbeats 4000000
/-! Defs by name, their promises; how the trees lie in the heap. -/
namespace Pk
open PySem PySem.Spec PyProof.Rows L2

/-! ### defs by name -/
/-- a promise that says nothing of exceptions -/
abbrev SpN := List V → Hp → VK → Prop
abbrev SpN.up (s : SpN) : Sp := fun vs H Q _ => s vs H Q
section
variable (P : Program) (w : World) (K : PySem.W.Frag) (mg : Str → Option Value) (base : Heap)
/-- the module's def x keeps its promise, at most so many levels deep -/
structure Cal (k : Nat) (x : Str) (ps : List Str) (sp : SpN) : Prop where
  ex : ∃ f fd, mg x = some (.ref f) ∧ PySem.W.keepIn K (.ref f) = true ∧ Binds K fd ps [] ∧ FnOk P w K mg base CX0 k f fd ps sp.up
/-- the module's def x stands as the text has it -/
structure Fd (x : Str) (st : Stmt) (ps : List Str) : Prop where
  ex : ∃ f fd, mg x = some (.ref f) ∧ FunD K x x (defArgs st) (defBody st) (defScope st) [] [] f fd ∧ Binds K fd ps []
end
section
variable {P : Program} {w : World} {K : PySem.W.Frag} {mg : Str → Option Value} {base : Heap} {k : Nat} {x : Str} {ps : List Str} {sp : SpN} {st : Stmt}
theorem Cal.mono {j : Nat} (C : Cal P w K mg base j x ps sp) (h : j ≤ k) : Cal P w K mg base k x ps sp := by
  obtain ⟨f, fd, a, b, c, d⟩ := C.ex
  exact ⟨f, fd, a, b, c, d.mono h⟩
theorem Cal.imp {sp' : SpN} (C : Cal P w K mg base k x ps sp) (h : ∀ vs H Q, sp' vs H Q → sp vs H Q) : Cal P w K mg base k x ps sp' := by
  obtain ⟨f, fd, a, b, c, d⟩ := C.ex
  exact ⟨f, fd, a, b, c, d.imp fun vs H Q E q => h vs H Q q⟩
/-- a promise that is never asked -/
theorem Fd.none (F : Fd K mg x st ps) (h : ∀ vs H Q, ¬ sp vs H Q) : Cal P w K mg base k x ps sp := by
  obtain ⟨f, fd, a, b, c⟩ := F.ex
  exact ⟨f, fd, a, b.kp, c, fun vs H Q E q => (h vs H Q q).elim, fun A outer s H args us vs Q E _ _ _ _ q => (h vs H Q q).elim⟩
/-- THE RULE for a def -/
theorem Fd.ok {N : List Str} (F : Fd K mg x st ps) (S : FnScope N ps (defScope st)) (len : ∀ vs H Q, sp vs H Q → vs.length = ps.length)
    (hbody : ∀ (f : Addr) (cdv : Value) (A : Around) (outer : List Env) (s : Shared) (H : Hp) (vs : List V) (Q : VK) (E : XK), Room k (A.deeper (envOfC x (defScope st) s.heap.objs.size f cdv)) → sp vs H Q →
      ∃ t, PSs (cxOf CX0 P w K mg base N x (defScope st) f cdv A outer s H E).nox (defBody st) t ∧ t { nx := fun _ H' => Q .non H', rt := Q } (start N vs) H) : Cal P w K mg base (k + 1) x ps sp := by
  obtain ⟨f, fd, a, b, c⟩ := F.ex
  refine ⟨f, fd, a, b.kp, c, b.ok S (fun vs H Q E q => len vs H Q q) fun cdv A outer s H vs Q E hr q => ?_⟩
  obtain ⟨t, h, z⟩ := hbody f cdv A outer s H vs Q E hr q
  exact ⟨t, h.nox, z⟩
end
def tCal (sp : SpN) (t : TA) : TE := fun σ H Q => t σ H fun vs H1 => sp vs H1 Q
theorem pe_cal {X : Cx} {k : Nat} {x : Str} {ps : List Str} {sp : SpN} {e : Expr} {es : List Expr} {t : TA} {p pos : Pos} (C : Cal X.prog X.w X.K X.mg X.base k x ps sp) (hr : Room k X.A) (hg : Gl X x) (ha : PA X (e :: es) t)
    (hdb : (x == ("__debug__" : Str)) = false := by decide) (he : starEach (e :: es) X.env = (false, eval e X.env) :: starEach es X.env := by rfl) (hpl : (backTo pos (starEach es X.env)).any (·.1) = false := by rfl) :
    PE X (.Call (.Name x p) (e :: es) [] pos) (tCal sp t) := by
  obtain ⟨f, fd, a, b, c, d⟩ := C.ex
  refine ⟨fun pins s σ H Q I h => ?_⟩
  refine (pe_call (dvs := []) (E := E0) d hr hg a b c .nil pass0 ha hdb he hpl).run pins s σ H Q I ?_
  have e0 : (fun (vs : List V) (H1 : Hp) => sp (vs ++ []) H1 Q) = fun vs H1 => sp vs H1 Q := by
    funext vs H1
    rw [List.append_nil]
  show t σ H (fun vs H1 => sp (vs ++ []) H1 Q)
  rw [e0]
  exact h

theorem tyes {σ : L2.St} {H : Hp} {R N : Hp → Prop} (h : R H) : tYes σ H fun b H3 => if b = true then R H3 else N H3 := h
/-! ### heaps -/
theorem same_upd {H : Hp} {p : Addr} {o : HO} (h : H p = none) : Same H (upd H p o) := fun b x e => by
  rw [upd_ne (ne_of_none e h)]
  exact e
theorem same_set {H H' : Hp} {p : Addr} {o : HO} (e : Same H H') (h : H p = none) : Same H (upd H' p o) := fun b x q => by
  rw [upd_ne (ne_of_none q h)]
  exact e b x q
theorem Same.get {H H' : Hp} {a : Addr} {o : HO} (s : Same H H') (h : H a = some o) : H' a = some o := s a o h
theorem Same.sqT {K : PySem.W.Frag} {H H' : Hp} {a : Addr} {xs : List V} (e : Same H H') (h : SqT K H a xs) : SqT K H' a xs := by
  rcases h with (h | ⟨o, h⟩) | h
  · exact .inl (.inl (e _ _ h))
  · exact .inl (.inr ⟨o, e _ _ h⟩)
  · exact .inr h
/-- all tuples stand -/
def TLe (H H' : Hp) : Prop := ∀ a xs, H a = some (.tup xs) → H' a = some (.tup xs)
theorem Same.tle {H H' : Hp} (s : Same H H') : TLe H H' := fun a xs h => s a _ h
theorem TLe.refl (H : Hp) : TLe H H := fun _ _ h => h
theorem TLe.trans {H H1 H2 : Hp} (a : TLe H H1) (b : TLe H1 H2) : TLe H H2 := fun x y h => b x y (a x y h)
/-- all but what m says stands -/
def But (m : Addr → Prop) (H H' : Hp) : Prop := ∀ b o, H b = some o → ¬ m b → H' b = some o
theorem But.refl {m : Addr → Prop} (H : Hp) : But m H H := fun _ _ h _ => h
theorem But.trans {m : Addr → Prop} {H H1 H2 : Hp} (a : But m H H1) (b : But m H1 H2) : But m H H2 := fun c o h n => b c o (a c o h n) n
theorem Same.but {m : Addr → Prop} {H H' : Hp} (s : Same H H') : But m H H' := fun b o h _ => s b o h

/-! ### trees in the heap -/
def Tu (H : Hp) (v : V) (xs : List V) : Prop := ∃ t, v = .ref t ∧ H t = some (.tup xs)
theorem Tu.mono {H H' : Hp} {v : V} {xs : List V} (e : TLe H H') (h : Tu H v xs) : Tu H' v xs := by
  obtain ⟨t, a, b⟩ := h
  exact ⟨t, a, e _ _ b⟩
theorem tup_tail {H : Hp} {t : Addr} {x y : V} {as bs : List V} (h : H t = some (.tup (x :: as))) (k : H t = some (.tup (y :: bs))) : as = bs := by
  rw [h] at k
  injection k with k
  injection k with k
  injection k
def opN : Op → Str
  | .plus => "plus"
  | .minus => "minus"
  | .less => "less"
def IsSm (H : Hp) : Sm → V → Prop
  | .num i, v => Tu H v [.str "num", .int i]
  | .slot x, v => Tu H v [.str "slot", .str x]
  | .bin o a b, v => ∃ va vb, Tu H v [.str (opN o), va, vb] ∧ IsSm H a va ∧ IsSm H b vb
theorem IsSm.mono {H H' : Hp} (e : TLe H H') : ∀ {a : Sm} {v : V}, IsSm H a v → IsSm H' a v
  | .num _, _, h => Tu.mono e h
  | .slot _, _, h => Tu.mono e h
  | .bin o a b, _, ⟨va, vb, h, h1, h2⟩ => ⟨va, vb, h.mono e, IsSm.mono e h1, IsSm.mono e h2⟩
mutual
def IsSt (H : Hp) : Stp → V → Prop
  | .read x c, v => Tu H v [.str "read", .str x, .int c]
  | .write c a, v => ∃ va, Tu H v [.str "write", .int c, va] ∧ IsSm H a va
  | .lt x a, v => ∃ va, Tu H v [.str "let", .str x, va] ∧ IsSm H a va
  | .tell a, v => ∃ va, Tu H v [.str "tell", va] ∧ IsSm H a va
  | .ite a p q, v => ∃ va t1 t2 vs1 vs2, Tu H v [.str "if", va, .ref t1, .ref t2] ∧ IsSm H a va ∧ (H t1 = some (.tup vs1) ∧ IsSts H p vs1) ∧ (H t2 = some (.tup vs2) ∧ IsSts H q vs2)
  | .inner p q, v => ∃ t1 t2 vs1 vs2, Tu H v [.str "inner", .ref t1, .ref t2] ∧ (H t1 = some (.tup vs1) ∧ IsSts H p vs1) ∧ (H t2 = some (.tup vs2) ∧ IsSts H q vs2)
  | .out, v => Tu H v [.str "out"]
  | .either p q, v => ∃ t1 t2 vs1 vs2, Tu H v [.str "either", .ref t1, .ref t2] ∧ (H t1 = some (.tup vs1) ∧ IsSts H p vs1) ∧ (H t2 = some (.tup vs2) ∧ IsSts H q vs2)
  | .retry, v => Tu H v [.str "retry"]
def IsSts (H : Hp) : List Stp → List V → Prop
  | [], vs => vs = []
  | s :: r, vs => ∃ v vr, vs = v :: vr ∧ IsSt H s v ∧ IsSts H r vr
end
mutual
theorem IsSt.mono {H H' : Hp} (e : TLe H H') : ∀ {s : Stp} {v : V}, IsSt H s v → IsSt H' s v
  | .read _ _, _, h => Tu.mono e h
  | .write _ _, _, ⟨va, h, a⟩ => ⟨va, h.mono e, a.mono e⟩
  | .lt _ _, _, ⟨va, h, a⟩ => ⟨va, h.mono e, a.mono e⟩
  | .tell _, _, ⟨va, h, a⟩ => ⟨va, h.mono e, a.mono e⟩
  | .ite _ p q, _, ⟨va, t1, t2, vs1, vs2, h, a, ⟨b1, b2⟩, ⟨c1, c2⟩⟩ => ⟨va, t1, t2, vs1, vs2, h.mono e, a.mono e, ⟨e _ _ b1, IsSts.mono e b2⟩, ⟨e _ _ c1, IsSts.mono e c2⟩⟩
  | .inner p q, _, ⟨t1, t2, vs1, vs2, h, ⟨b1, b2⟩, ⟨c1, c2⟩⟩ => ⟨t1, t2, vs1, vs2, h.mono e, ⟨e _ _ b1, IsSts.mono e b2⟩, ⟨e _ _ c1, IsSts.mono e c2⟩⟩
  | .out, _, h => Tu.mono e h
  | .either p q, _, ⟨t1, t2, vs1, vs2, h, ⟨b1, b2⟩, ⟨c1, c2⟩⟩ => ⟨t1, t2, vs1, vs2, h.mono e, ⟨e _ _ b1, IsSts.mono e b2⟩, ⟨e _ _ c1, IsSts.mono e c2⟩⟩
  | .retry, _, h => Tu.mono e h
theorem IsSts.mono {H H' : Hp} (e : TLe H H') : ∀ {p : List Stp} {vs : List V}, IsSts H p vs → IsSts H' p vs
  | [], _, h => h
  | s :: r, _, ⟨v, vr, h, a, b⟩ => ⟨v, vr, h, IsSt.mono e a, IsSts.mono e b⟩
end
/-- a program at v -/
def IsPr (H : Hp) (p : List Stp) (v : V) : Prop := ∃ t vs, v = .ref t ∧ H t = some (.tup vs) ∧ IsSts H p vs
theorem IsPr.mono {H H' : Hp} (e : TLe H H') {p : List Stp} {v : V} (h : IsPr H p v) : IsPr H' p v := by
  obtain ⟨t, vs, a, b, c⟩ := h
  exact ⟨t, vs, a, e _ _ b, c.mono e⟩
theorem IsSts.length {H : Hp} : ∀ {p : List Stp} {vs : List V}, IsSts H p vs → vs.length = p.length
  | [], _, h => by rw [show _ = [] from h]; rfl
  | s :: r, _, ⟨v, vr, h, _, b⟩ => by rw [h, List.length_cons, List.length_cons, IsSts.length b]
theorem IsSts.append {H : Hp} : ∀ {p q : List Stp} {vs ws : List V}, IsSts H p vs → IsSts H q ws → IsSts H (p ++ q) (vs ++ ws)
  | [], _, _, _, h, k => by rw [show _ = [] from h]; exact k
  | s :: r, _, _, _, ⟨v, vr, h, a, b⟩, k => ⟨v, vr ++ _, by rw [h]; rfl, a, IsSts.append b k⟩
theorem IsSts.at {H : Hp} : ∀ {p : List Stp} {vs : List V} {i : Nat} {v : V}, IsSts H p vs → vs[i]? = some v → ∃ s, p[i]? = some s ∧ IsSt H s v
  | [], _, _, _, h, e => by rw [show _ = [] from h] at e; simp at e
  | s :: r, _, 0, _, ⟨v, vr, h, a, b⟩, e => by
    subst h
    cases e
    exact ⟨s, rfl, a⟩
  | s :: r, _, i + 1, _, ⟨v, vr, h, a, b⟩, e => by
    subst h
    obtain ⟨s2, e2, h2⟩ := IsSts.at (i := i) b (by simpa using e)
    exact ⟨s2, by simpa using e2, h2⟩
theorem IsSts.take {H : Hp} : ∀ {p : List Stp} {vs : List V} (n : Nat), IsSts H p vs → IsSts H (p.take n) (vs.take n)
  | _, _, 0, _ => rfl
  | [], _, n + 1, h => by rw [show _ = [] from h]; rfl
  | s :: r, _, n + 1, ⟨v, vr, h, a, b⟩ => ⟨v, vr.take n, by rw [h]; rfl, a, IsSts.take n b⟩
theorem IsSts.drop {H : Hp} : ∀ {p : List Stp} {vs : List V} (n : Nat), IsSts H p vs → IsSts H (p.drop n) (vs.drop n)
  | _, _, 0, h => h
  | [], _, n + 1, h => by rw [show _ = [] from h]; rfl
  | s :: r, _, n + 1, ⟨v, vr, h, a, b⟩ => by subst h; exact IsSts.drop n b

/-- the nine words -/
inductive Kw where
  | read | write | lt | tell | ite | inner | out | either | retry
  deriving DecidableEq
def kwN : Kw → Str
  | .read => "read"
  | .write => "write"
  | .lt => "let"
  | .tell => "tell"
  | .ite => "if"
  | .inner => "inner"
  | .out => "out"
  | .either => "either"
  | .retry => "retry"
theorem kwN_inj {a b : Kw} (h : kwN a = kwN b) : a = b := by
  cases a <;> cases b <;> first | rfl | exact absurd h (by decide)
def kw : Stp → Kw
  | .read _ _ => .read
  | .write _ _ => .write
  | .lt _ _ => .lt
  | .tell _ => .tell
  | .ite _ _ _ => .ite
  | .inner _ _ => .inner
  | .out => .out
  | .either _ _ => .either
  | .retry => .retry
/-- the word of a step -/
abbrev wrd (s : Stp) : Str := kwN (kw s)
theorem dec_kw (a b : Kw) : decide (V.str (kwN a) = V.str (kwN b)) = decide (a = b) := by
  by_cases h : a = b
  · rw [h]; simp
  · rw [decide_eq_false h, decide_eq_false]
    exact fun e => h (kwN_inj (V.str.inj e))
theorem inV_kw (a : Kw) (l : List Kw) : inV (.str (kwN a)) (l.map fun k => V.str (kwN k)) = decide (a ∈ l) := by
  unfold inV
  induction l with
  | nil => simp
  | cons b l ih =>
    rw [List.map_cons, List.any_cons, ih]
    by_cases h : b = a
    · rw [h]; simp [eqV]
    · have : (kwN b == kwN a) = false := beq_eq_false_iff_ne.mpr fun e => h (kwN_inj e)
      have h2 : a ≠ b := fun e => h e.symm
      simp [eqV, this, h2]
/-- the programs in a step -/
def parts : Stp → List (List Stp)
  | .ite _ p q => [p, q]
  | .inner p q => [p, q]
  | .either p q => [p, q]
  | _ => []
/-- a step's tuple: its word, what stands ahead of the programs, the programs -/
theorem IsSt.open {H : Hp} {s : Stp} {v : V} (h : IsSt H s v) : ∃ t as, v = .ref t ∧ H t = some (.tup (.str (wrd s) :: as)) ∧ as.length ≤ 3 := by
  cases s with
  | read x c => obtain ⟨t, e, h⟩ := h; exact ⟨t, _, e, h, by simp⟩
  | write c a => obtain ⟨va, ⟨t, e, h⟩, _⟩ := h; exact ⟨t, _, e, h, by simp⟩
  | lt x a => obtain ⟨va, ⟨t, e, h⟩, _⟩ := h; exact ⟨t, _, e, h, by simp⟩
  | tell a => obtain ⟨va, ⟨t, e, h⟩, _⟩ := h; exact ⟨t, _, e, h, by simp⟩
  | ite a p q => obtain ⟨va, t1, t2, vs1, vs2, ⟨t, e, h⟩, _⟩ := h; exact ⟨t, _, e, h, by simp⟩
  | inner p q => obtain ⟨t1, t2, vs1, vs2, ⟨t, e, h⟩, _⟩ := h; exact ⟨t, _, e, h, by simp⟩
  | out => obtain ⟨t, e, h⟩ := h; exact ⟨t, _, e, h, by simp⟩
  | either p q => obtain ⟨t1, t2, vs1, vs2, ⟨t, e, h⟩, _⟩ := h; exact ⟨t, _, e, h, by simp⟩
  | retry => obtain ⟨t, e, h⟩ := h; exact ⟨t, _, e, h, by simp⟩
end Pk
-- ## PkOwn
set_option Elab.async false
set_option linter.all false
set_option maxRecDepth 100000
set_option maxHeartbeats 4000000
namespace Pk
open PySem PySem.Spec PyProof.Rows L2
abbrev N_has_own : List Str := ["program", "word", "around", "name", "rest", "parts", "part"]
theorem sc_has_own : FnScope N_has_own ["program", "word", "around"] (defScope s_has_own) := ⟨rfl, rfl, rfl, by decide +kernel, rfl, by decide +kernel, by decide +kernel⟩
def kW : Bool → Kw
  | false => .out
  | true => .retry
def kA : Bool → Kw
  | false => .inner
  | true => .either
abbrev eW (e : Bool) : Str := kwN (kW e)
abbrev eA (e : Bool) : Str := kwN (kA e)
theorem cut_from (xs : List V) (k : Nat) : cutV xs (some (k : Int)) none = xs.drop k := by
  unfold cutV
  rw [HT.sIx_nat, HT.sIx_none]
  by_cases h : k ≤ xs.length
  · rw [Nat.min_eq_left h]
    exact List.take_of_length_le (by rw [List.length_drop]; omega)
  · rw [Nat.min_eq_right (by omega), List.drop_of_length_le (Nat.le_refl _), List.drop_of_length_le (by omega), List.take_nil]
/-- the parts of a step in which a word may be of what stands around it -/
def mine (e : Bool) : Stp → List (List Stp)
  | .ite _ p q => [p, q]
  | .inner p q => if e then [p, q] else [q]
  | .either p q => if e then [q] else [p, q]
  | _ => []
def isW (e : Bool) : Stp → Bool
  | .out => !e
  | .retry => e
  | _ => false
theorem ownS_mine (e : Bool) (s : Stp) : ownS e s = (isW e s || (mine e s).any (own e)) := by
  cases s <;> cases e <;> simp [ownS, isW, mine]
/-- programs at values -/
def IsPrs (H : Hp) : List (List Stp) → List V → Prop
  | [], vs => vs = []
  | p :: r, vs => ∃ v vr, vs = v :: vr ∧ IsPr H p v ∧ IsPrs H r vr
theorem IsPrs.mono {H H' : Hp} (e : TLe H H') : ∀ {ps : List (List Stp)} {vs : List V}, IsPrs H ps vs → IsPrs H' ps vs
  | [], _, h => h
  | p :: r, _, ⟨v, vr, h, a, b⟩ => ⟨v, vr, h, a.mono e, IsPrs.mono e b⟩
theorem IsPrs.length {H : Hp} : ∀ {p : List (List Stp)} {vs : List V}, IsPrs H p vs → vs.length = p.length
  | [], _, h => by rw [show _ = [] from h]; rfl
  | s :: r, _, ⟨v, vr, h, _, b⟩ => by rw [h, List.length_cons, List.length_cons, IsPrs.length b]
theorem IsPrs.at {H : Hp} : ∀ {p : List (List Stp)} {vs : List V} {i : Nat} {v : V}, IsPrs H p vs → vs[i]? = some v → ∃ s, p[i]? = some s ∧ IsPr H s v
  | [], _, _, _, h, e => by rw [show _ = [] from h] at e; simp at e
  | s :: r, _, 0, _, ⟨v, vr, h, a, b⟩, e => by
    subst h
    cases e
    exact ⟨s, rfl, a⟩
  | s :: r, _, i + 1, _, ⟨v, vr, h, a, b⟩, e => by
    subst h
    obtain ⟨s2, e2, h2⟩ := IsPrs.at (i := i) b (by simpa using e)
    exact ⟨s2, by simpa using e2, h2⟩
theorem isPr_mk {H : Hp} {p : List Stp} {t : Addr} {vs : List V} (h : H t = some (.tup vs) ∧ IsSts H p vs) : IsPr H p (.ref t) := ⟨t, vs, rfl, h.1, h.2⟩
theorem mine_dep {e : Bool} {s : Stp} {p : List Stp} (h : p ∈ mine e s) : dep0 p < depS s ∧ cnt p < cntS s := by
  cases s with
  | ite a p q => simp [mine] at h; rcases h with rfl | rfl <;> simp only [depS, cntS] <;> omega
  | inner p q => cases e <;> simp [mine] at h <;> (first | (rcases h with rfl | rfl) | subst h) <;> simp only [depS, cntS] <;> omega
  | either p q => cases e <;> simp [mine] at h <;> (first | (rcases h with rfl | rfl) | subst h) <;> simp only [depS, cntS] <;> omega
  | _ => simp [mine] at h
theorem at_step {p : List Stp} {i : Nat} {s : Stp} (h : p[i]? = some s) : depS s ≤ dep0 p ∧ cntS s ≤ cnt p := by
  induction p generalizing i with
  | nil => simp at h
  | cons x r ih =>
    cases i with
    | zero =>
      cases h
      simp only [dep0, cnt]
      omega
    | succ i =>
      have := ih (i := i) (by simpa using h)
      simp only [dep0, cnt]
      omega
def spOwn (n : Nat) : SpN := fun vs H Q => ∃ p e v, vs = [v, .str (eW e), .str (eA e)] ∧ IsPr H p v ∧ dep0 p < n ∧ cnt p ≤ 1000 ∧ ∀ H', Same H H' → Q (.bl (own e p)) H'
/-- the choice of the parts -/
def tParts (K : PySem.W.Frag) : TE := tIf (tTest (tOp (rIn K false) (tVar 3) (tTup (tCons (tVar 2) (tCons (tC (V.str "if")) tNil))))) (tSl (rSlL K) (tVar 4) (tPart (tC (V.int 1))) tNoPart)
  (tIf (tTest (tOp (rIn K false) (tVar 3) (tTup (tCons (tC (V.str "inner")) (tCons (tC (V.str "either")) tNil))))) (tVar 4) (tLst tNil))
theorem parts_read {K : PySem.W.Frag} {e : Bool} {s : Stp} {H : Hp} {l t : Addr} {as : List V} {y0 y1 y5 y6 : Option V} {Q : VK} (hs : IsSt H s (.ref t)) (ht : H t = some (.tup (.str (wrd s) :: as))) (hl : H l = some (.lst as))
    (q : ∀ a vs H', Same H H' → H' a = some (.lst vs) → IsPrs H (mine e s) vs → Q (.ref a) H') : tParts K [y0, y1, some (.str (eA e)), some (.str (wrd s)), some (.ref l), y5, y6] H Q := by
  have ltup : ∀ (x y : Str) (b : Addr), H b = none → SqT K (upd H b (.tup [.str x, .str y])) b [.str x, .str y] := fun x y b _ => SqT.of upd_same
  have i1 : inV (.str (wrd s)) [.str (eA e), .str "if"] = decide (kw s ∈ [kA e, .ite]) := inV_kw (kw s) [kA e, .ite]
  have i2 : inV (.str (wrd s)) [.str "inner", .str "either"] = decide (kw s ∈ [.inner, .either]) := inV_kw (kw s) [.inner, .either]
  have first : (kw s ∈ [kA e, .ite] → IsPrs H (mine e s) (as.drop 1)) → (kw s ∉ [kA e, .ite] → (kw s ∈ [.inner, .either] → IsPrs H (mine e s) as) ∧ (kw s ∉ [.inner, .either] → mine e s = [])) → tParts K [y0, y1, some (.str (eA e)), some (.str (wrd s)), some (.ref l), y5, y6] H Q := fun h1 h2 => by
    refine ⟨_, rfl, _, rfl, by show 2 ≤ sizeLine; decide, fun b nb => ?_⟩
    refine ⟨b, _, rfl, .inr (SqT.of upd_same), rfl, rfl, _, rfl, ?_⟩
    rw [show (if false = true then !inV (.str (wrd s)) [.str (eA e), .str "if"] else inV (.str (wrd s)) [.str (eA e), .str "if"]) = _ from i1]
    have sb := same_upd (o := .tup [.str (eA e), .str "if"]) nb
    refine ite2 (fun c => ?_) (fun c => ?_)
    · refine ⟨_, rfl, 1, rfl, l, as, rfl, SqL.of (sb _ _ hl), fun a na => ?_⟩
      have c1 : cutV as (some 1) none = as.drop 1 := cut_from as 1
      exact q a (as.drop 1) _ (sb.trans (same_upd na)) (by rw [upd_same, c1]) (h1 (of_decide_eq_true c))
    · obtain ⟨h3, h4⟩ := h2 fun z => c (decide_eq_true z)
      refine ⟨_, rfl, by show 2 ≤ sizeLine; decide, fun b2 nb2 => ?_⟩
      refine ⟨b2, _, rfl, .inr (SqT.of upd_same), rfl, rfl, _, rfl, ?_⟩
      rw [show (if false = true then !inV (.str (wrd s)) [.str "inner", .str "either"] else inV (.str (wrd s)) [.str "inner", .str "either"]) = _ from i2]
      have sb2 := sb.trans (same_upd (o := .tup [.str "inner", .str "either"]) nb2)
      refine ite2 (fun c2 => ?_) (fun c2 => ?_)
      · exact ⟨_, rfl, q l as _ sb2 (sb2 _ _ hl) (h3 (of_decide_eq_true c2))⟩
      · refine ⟨Nat.zero_le _, fun a na => ?_⟩
        refine q a [] _ (sb2.trans (same_upd na)) upd_same ?_
        rw [h4 fun z => c2 (decide_eq_true z)]
        rfl
  cases s with
  | read x c => exact first (fun z => by cases e <;> simp [kw, kA] at z) fun _ => ⟨fun z => by simp [kw] at z, fun _ => rfl⟩
  | write c a => exact first (fun z => by cases e <;> simp [kw, kA] at z) fun _ => ⟨fun z => by simp [kw] at z, fun _ => rfl⟩
  | lt x a => exact first (fun z => by cases e <;> simp [kw, kA] at z) fun _ => ⟨fun z => by simp [kw] at z, fun _ => rfl⟩
  | tell a => exact first (fun z => by cases e <;> simp [kw, kA] at z) fun _ => ⟨fun z => by simp [kw] at z, fun _ => rfl⟩
  | out => exact first (fun z => by cases e <;> simp [kw, kA] at z) fun _ => ⟨fun z => by simp [kw] at z, fun _ => rfl⟩
  | retry => exact first (fun z => by cases e <;> simp [kw, kA] at z) fun _ => ⟨fun z => by simp [kw] at z, fun _ => rfl⟩
  | ite a p p2 =>
    obtain ⟨va, t1, t2, vs1, vs2, ⟨t', e1, e2⟩, _, h1, h2⟩ := hs
    cases e1
    rw [e2] at ht
    cases ht
    exact first (fun _ => ⟨_, _, rfl, isPr_mk h1, _, _, rfl, isPr_mk h2, rfl⟩) fun z => absurd (show kw (.ite a p p2) ∈ [kA e, .ite] by simp [kw]) z
  | inner p p2 =>
    obtain ⟨t1, t2, vs1, vs2, ⟨t', e1, e2⟩, h1, h2⟩ := hs
    cases e1
    rw [e2] at ht
    cases ht
    cases e with
    | false => exact first (fun _ => ⟨_, _, rfl, isPr_mk h2, rfl⟩) fun z => absurd (show kw (.inner p p2) ∈ [kA false, .ite] by simp [kw, kA]) z
    | true => exact first (fun z => by simp [kw, kA] at z) fun _ => ⟨fun _ => ⟨_, _, rfl, isPr_mk h1, _, _, rfl, isPr_mk h2, rfl⟩, fun z => absurd (show kw (.inner p p2) ∈ [.inner, .either] by simp [kw]) z⟩
  | either p p2 =>
    obtain ⟨t1, t2, vs1, vs2, ⟨t', e1, e2⟩, h1, h2⟩ := hs
    cases e1
    rw [e2] at ht
    cases ht
    cases e with
    | true => exact first (fun _ => ⟨_, _, rfl, isPr_mk h2, rfl⟩) fun z => absurd (show kw (.either p p2) ∈ [kA true, .ite] by simp [kw, kA]) z
    | false => exact first (fun z => by simp [kw, kA] at z) fun _ => ⟨fun _ => ⟨_, _, rfl, isPr_mk h1, _, _, rfl, isPr_mk h2, rfl⟩, fun z => absurd (show kw (.either p p2) ∈ [.inner, .either] by simp [kw]) z⟩
theorem isW_kw (e : Bool) (s : Stp) : (kw s = kW e) ↔ isW e s = true := by
  cases s <;> cases e <;> simp [isW, kw, kW]
theorem own_mem {e : Bool} {p : List Stp} {i : Nat} {s : Stp} (h : p[i]? = some s) (ho : ownS e s = true) : own e p = true := by
  induction p generalizing i with
  | nil => simp at h
  | cons x r ih =>
    cases i with
    | zero =>
      cases h
      simp [own, ho]
    | succ i => simp [own, ih (i := i) (by simpa using h)]
section
variable {P : Program} {w : World} {K : PySem.W.Frag} {mg : Str → Option Value} {base : Heap}
theorem ok_has_own (F : Fd K mg "has_own" s_has_own ["program", "word", "around"]) (ga : mg "any" = none) : ∀ n, Cal P w K mg base n "has_own" ["program", "word", "around"] (spOwn n)
  | 0 => F.none fun vs H Q ⟨p, e, v, _, _, h, _⟩ => absurd h (Nat.not_lt_zero _)
  | n + 1 => by
    have C := ok_has_own F ga n
    refine F.ok sc_has_own (fun vs H Q ⟨p, e, v, h, _⟩ => by rw [h]; rfl) fun f cdv A outer s H vs Q E hr h => ?_
    obtain ⟨p, e, v, rfl, hp, hd, hc, q⟩ := h
    refine ⟨_, pss_cons (ps_for PassesOwn.never rfl (pi_tup (pv 0)) (pg_star rfl (pgs_cons (pg_name (i := 3) sc_has_own.nd rfl (.inl rfl)) (pgs_star (pg_name (i := 4) sc_has_own.nd rfl (.inl rfl)))))
      (pss_cons (ps_if (pt_cmpR op_eq (pv 3) (pv 1) (nomark _)) (pss_one (ps_ret pe_bl)) pss_nil)
      (pss_cons (ps_set (i := 5) sc_has_own.nd rfl (.inl rfl) (pe_ifExp (pt_cmpR op_in_seq (pv 3) (pe_tup (pa_cons (pv 2) (pa_cons pe_str pa_nil))) rfl) (pe_slice sl_list (pv 4) (po_some pe_int) po_none)
        (pe_ifExp (pt_cmpR op_in_seq (pv 3) (pe_tup (pa_cons pe_str (pa_cons pe_str pa_nil))) rfl) (pv 4) (pe_lst pa_nil))))
      (pss_one (ps_if (pt_val (pe_callB (cr_any rfl) (by rfl) ga (by decide +kernel) (pa_cons (pe_lc (own := [("part", 6)]) (g := gName 6) (tt := tYes) rfl sc_has_own.nd (pi_list (pv 5)) (blkOk_by (N := N_has_own) (sc := defScope s_has_own) (by decide +kernel))
        (fun _ _ _ _ _ => pg_name (i := 6) sc_has_own.nd rfl (.inl rfl)) (fun _ _ _ _ _ => pts_nil) (fun _ _ _ _ _ => pe_cal C hr rfl (pa_cons (pv 6) (pa_cons (pv 1) (pa_cons (pv 2) pa_nil))))) pa_nil))) (pss_one (ps_ret pe_bl)) pss_nil)))))
      (pss_one (ps_ret pe_bl)), ?_⟩
    obtain ⟨t, ws, rfl, ht, hs⟩ := hp
    refine ⟨.ref t, rfl, t, rfl, ⟨ws, SqT.of ht⟩, for_it (walk_tup (xs := ws)) (fun i σ H' => ∃ y3 y4 y5 y6, σ = [some (.ref t), some (.str (eW e)), some (.str (eA e)), y3, y4, y5, y6] ∧ Same H H' ∧ own e (p.take i) = false)
      ⟨none, none, none, none, rfl, Same.refl H, rfl⟩ (fun i σ H' _ ⟨_, _, _, _, _, sm, _⟩ => Same.sqT sm (SqT.of ht)) (fun i x σ H1 H2 hi ⟨y3, y4, y5, y6, e1, sm, ho⟩ hY => ?_) (fun σ H' ⟨_, _, _, _, _, sm, ho⟩ => ?_)⟩
    · obtain ⟨e2, hx⟩ := hY
      subst e1 e2
      obtain ⟨st, hst, hI⟩ := hs.at hx
      obtain ⟨hd1, hc1⟩ := at_step hst
      obtain ⟨t1, as, rfl, h1, hlen⟩ := hI.open
      have htk : own e (p.take (i + 1)) = ownS e st := by
        rw [List.take_add_one, hst, own_append, ho]
        simp [own]
      refine ⟨t1, _, as, rfl, SqT.of (sm _ _ h1), by omega, fun l nl => ?_⟩
      refine ⟨_, _, rfl, _, _, rfl, rfl, ?_⟩
      have sm2 : Same H (upd H2 l (.lst as)) := Same.trans sm (same_upd nl)
      refine ⟨_, rfl, _, rfl, rfl, _, rfl, ?_⟩
      rw [dec_kw]
      refine ite2 (fun he => ?_) (fun he => ?_)
      · have hw : isW e st = true := (isW_kw e st).1 (of_decide_eq_true he)
        have ho2 : own e p = true := own_mem hst (by rw [ownS_mine, hw]; rfl)
        have := q _ sm2
        rw [ho2] at this
        exact this
      · have hw : isW e st = false := by
          cases c : isW e st with
          | false => rfl
          | true => exact absurd (decide_eq_true ((isW_kw e st).2 c)) he
        refine parts_read (hI.mono (Same.tle sm2)) (sm2 _ _ h1) upd_same fun a vs H3 sm3 ha hps => ?_
        have sm4 := Same.trans sm2 sm3
        refine ⟨_, rfl, a, rfl, ⟨vs, SqL.of ha⟩, fun D nD => ?_⟩
        refine lc_it (walk_list (xs := vs)) (fun j H' => Same H3 H' ∧ H' D = some (.lst (((mine e st).take j).map fun r => V.bl (own e r)))) ⟨same_upd nD, upd_same⟩ (fun j H' _ ⟨s1, _⟩ => Same.seq s1 (SqL.of ha)) (fun j x H4 H5 hj ⟨s1, hD⟩ hY => ?_) (fun H' ⟨s1, hD⟩ => ?_)
        · obtain ⟨e5, hx5⟩ := hY
          subst e5
          obtain ⟨r, hr1, hr2⟩ := hps.at hx5
          obtain ⟨m1, m2⟩ := mine_dep (List.mem_of_getElem? hr1)
          refine ⟨rfl, tyes ⟨_, rfl, _, rfl, _, rfl, r, e, x, rfl, hr2.mono (Same.tle (Same.trans sm3 s1)), by omega, by omega, fun H6 s6 => ⟨_, s6 _ _ hD, ?_, ?_⟩⟩⟩
          · rw [List.length_map, List.length_take]
            have : (mine e st).length ≤ 2 := by cases st <;> cases e <;> simp [mine]
            exact Nat.lt_of_le_of_lt (Nat.le_trans (Nat.min_le_right _ _) this) (by decide)
          · refine ⟨same_set (Same.trans s1 s6) nD, ?_⟩
            rw [upd_same, List.take_add_one, hr1, List.map_append]
            rfl
        · rw [List.take_of_length_le (by rw [hps.length]; exact Nat.le_refl _)] at hD
          refine ⟨D, (mine e st).map (own e), rfl, SqL.of ?_, _, rfl, ?_⟩
          · rw [hD, List.map_map]
            rfl
          · have hall : ((mine e st).map (own e)).any id = ownS e st := by rw [ownS_mine, hw, List.any_map]; rfl
            rw [hall]
            refine ite2 (fun c => ?_) (fun c => ?_)
            · have ho2 : own e p = true := own_mem hst c
              have := q _ (Same.trans sm4 s1)
              rw [ho2] at this
              exact this
            · refine ⟨_, _, _, _, rfl, Same.trans sm4 s1, ?_⟩
              rw [htk]
              simpa using c
    · rw [List.take_of_length_le (by rw [hs.length]; exact Nat.le_refl _)] at ho
      have := q _ sm
      rw [ho] at this
      exact this
end
end Pk
-- ## PkPlain
set_option Elab.async false
set_option linter.all false
set_option maxRecDepth 100000
set_option maxHeartbeats 4000000
namespace Pk
open PySem PySem.Spec PyProof.Rows L2
/-! ### the words of sums -/
inductive Ks where
  | num | slot | plus | minus | less
  deriving DecidableEq
def ksN : Ks → Str
  | .num => "num"
  | .slot => "slot"
  | .plus => "plus"
  | .minus => "minus"
  | .less => "less"
theorem ksN_inj {a b : Ks} (h : ksN a = ksN b) : a = b := by
  cases a <;> cases b <;> first | rfl | exact absurd h (by decide)
theorem dec_ks (a b : Ks) : decide (V.str (ksN a) = V.str (ksN b)) = decide (a = b) := by
  by_cases h : a = b
  · rw [h]; simp
  · rw [decide_eq_false h, decide_eq_false]
    exact fun e => h (ksN_inj (V.str.inj e))
def ks : Sm → Ks
  | .num _ => .num
  | .slot _ => .slot
  | .bin .plus _ _ => .plus
  | .bin .minus _ _ => .minus
  | .bin .less _ _ => .less
theorem opN_ks (o : Op) (a b : Sm) : opN o = ksN (ks (.bin o a b)) := by cases o <;> rfl
theorem IsSm.open {H : Hp} {a : Sm} {v : V} (h : IsSm H a v) : ∃ t as, v = .ref t ∧ H t = some (.tup (.str (ksN (ks a)) :: as)) ∧ as.length ≤ 2 := by
  cases a with
  | num i => obtain ⟨t, e, h⟩ := h; exact ⟨t, _, e, h, by simp⟩
  | slot x => obtain ⟨t, e, h⟩ := h; exact ⟨t, _, e, h, by simp⟩
  | bin o a b => obtain ⟨va, vb, ⟨t, e, h⟩, _⟩ := h; exact ⟨t, _, e, by rw [← opN_ks]; exact h, by simp⟩
theorem isNum_ks (a : Sm) : (ks a = .num) ↔ ∃ i, isNum a = some i := by
  cases a with
  | num i => simp [ks, isNum]
  | slot x => simp [ks, isNum]
  | bin o a b => cases o <;> simp [ks, isNum]
theorem dec_kk {k j : Kw} : decide (V.str (kwN k) = V.str (kwN j)) = decide (k = j) := dec_kw k j

abbrev N_steps_for : List Str := ["step", "word", "rest", "amount", "first", "second"]
theorem sc_steps_for : FnScope N_steps_for ["step"] (defScope s_steps_for) := ⟨rfl, rfl, rfl, by decide +kernel, rfl, by decide +kernel, by decide +kernel⟩
abbrev N_plainer : List Str := ["program", "found", "step"]
theorem sc_plainer : FnScope N_plainer ["program"] (defScope s_plainer) := ⟨rfl, rfl, rfl, by decide +kernel, rfl, by decide +kernel, by decide +kernel⟩
def spPl (n : Nat) : SpN := fun vs H Q => ∃ p v, vs = [v] ∧ IsPr H p v ∧ dep0 p < n ∧ cnt p ≤ 1000 ∧ ∀ H' v', Same H H' → IsPr H' (pl p) v' → Q v' H'
def spSf (n : Nat) : SpN := fun vs H Q => ∃ s v, vs = [v] ∧ IsSt H s v ∧ depS s ≤ n ∧ cntS s ≤ 1000 ∧ ∀ H' v', Same H H' → IsPr H' (plS s) v' → Q v' H'
section
variable {P : Program} {w : World} {K : PySem.W.Frag} {mg : Str → Option Value} {base : Heap}
theorem ok_steps_for {n k : Nat} (F : Fd K mg "steps_for" s_steps_for ["step"]) (Cp : Cal P w K mg base k "plainer" ["program"] (spPl n)) (Co : Cal P w K mg base k "has_own" ["program", "word", "around"] (spOwn n)) :
    Cal P w K mg base (k + 1) "steps_for" ["step"] (spSf n) := by
  refine F.ok sc_steps_for (fun vs H Q ⟨p, v, h, _⟩ => by rw [h]; rfl) fun f cdv A outer s H vs Q E hr h => ?_
  obtain ⟨st, v, rfl, hI, hd, hc, q⟩ := h
  refine ⟨_, pss_cons (ps_asg (pv 0) (pg_star rfl (pgs_cons (pg_name (i := 1) sc_steps_for.nd rfl (.inl rfl)) (pgs_star (pg_name (i := 2) sc_steps_for.nd rfl (.inl rfl))))))
    (pss_cons (ps_if (pt_cmpR op_eq (pv 1) pe_str (nomark _))
      (pss_cons (ps_par3 (i := 3) (j := 4) (l := 5) rfl sc_steps_for.nd rfl rfl rfl (by decide) (by decide) (by decide) rfl rfl rfl
          (pa_cons (pe_ix ix_list (pv 2) pe_int (fun _ _ => rfl)) (pa_cons (pe_cal Cp hr rfl (pa_cons (pe_ix ix_list (pv 2) pe_int (fun _ _ => rfl)) pa_nil)) (pa_cons (pe_cal Cp hr rfl (pa_cons (pe_ix ix_list (pv 2) pe_int (fun _ _ => rfl)) pa_nil)) pa_nil))) (by rfl))
      (pss_cons (ps_if (pt_cmpR op_ne (pe_ix ix_tup (pv 3) pe_int (fun _ _ => rfl)) pe_str (nomark _)) (pss_one (ps_ret (pe_tup (pa_cons (pe_tup (pa_cons (pv 1) (pa_cons (pv 3) (pa_cons (pv 4) (pa_cons (pv 5) pa_nil))))) pa_nil)))) pss_nil)
      (pss_one (ps_ret (pe_ifExp (pt_cmpR op_gt (pe_ix ix_tup (pv 3) pe_int (fun _ _ => rfl)) pe_int (nomark _)) (pv 4) (pv 5))))))
      pss_nil)
    (pss_cons (ps_if (pt_cmpR op_notIn_seq (pv 1) (pe_tup (pa_cons pe_str (pa_cons pe_str pa_nil))) rfl) (pss_one (ps_ret (pe_tup (pa_cons (pv 0) pa_nil)))) pss_nil)
    (pss_cons (ps_par (i := 4) (j := 5) (by rfl) sc_steps_for.nd rfl rfl (by decide) rfl rfl (pa_cons (pe_cal Cp hr rfl (pa_cons (pe_ix ix_list (pv 2) pe_int (fun _ _ => rfl)) pa_nil)) (pa_cons (pe_cal Cp hr rfl (pa_cons (pe_ix ix_list (pv 2) pe_int (fun _ _ => rfl)) pa_nil)) pa_nil)) (by rfl))
    (pss_cons (ps_if (pt_val (pe_cal Co hr rfl (pa_cons (pv 4) (pa_cons (pe_ifExp (pt_cmpR op_eq (pv 1) pe_str (nomark _)) pe_str pe_str) (pa_cons (pv 1) pa_nil)))))
      (pss_one (ps_ret (pe_tup (pa_cons (pe_tup (pa_cons (pv 1) (pa_cons (pv 4) (pa_cons (pv 5) pa_nil)))) pa_nil)))) pss_nil)
    (pss_one (ps_ret (pv 4))))))), ?_⟩
  obtain ⟨t, as, rfl, ht, hlen⟩ := hI.open
  refine ⟨.ref t, rfl, t, _, as, rfl, SqT.of ht, by omega, fun l nl => ⟨_, _, rfl, _, _, rfl, rfl, ?_⟩⟩
  have sl := same_upd (o := .lst as) nl
  have hl : upd H l (.lst as) l = some (.lst as) := upd_same
  generalize upd H l (.lst as) = H1 at sl hl
  refine ⟨_, rfl, rfl, _, rfl, ?_⟩
  rw [show (Str.ofString "if") = kwN .ite from rfl, dec_kk]
  refine ite2 (fun c => ?_) (fun c => ?_)
  · -- an if
    cases st with
    | ite a p p2 =>
      obtain ⟨va, t1, t2, vs1, vs2, ⟨t', e1, e2⟩, ha, h1, h2⟩ := hI
      cases e1
      rw [e2] at ht
      cases ht
      simp only [depS, cntS] at hd hc
      refine ⟨_, rfl, l, _, 0, _, rfl, rfl, SqL.of hl, rfl, ?_⟩
      refine ⟨_, rfl, l, _, 1, _, rfl, rfl, SqL.of hl, rfl, p, _, rfl, (isPr_mk h1).mono (Same.tle sl), by omega, by omega, fun H2 w1 s2 hw1 => ?_⟩
      refine ⟨_, rfl, l, _, 2, _, rfl, rfl, SqL.of (s2 _ _ hl), rfl, p2, _, rfl, (isPr_mk h2).mono (Same.tle (Same.trans sl s2)), by omega, by omega, fun H3 w2 s3 hw2 => ?_⟩
      have s03 := Same.trans (Same.trans sl s2) s3
      refine ⟨va, w1, w2, rfl, ?_⟩
      obtain ⟨ta, bs, rfl, hta, hlen2⟩ := ha.open
      refine ⟨_, rfl, ta, _, 0, .str (ksN (ks a)), rfl, rfl, SqT.of (s03 _ _ hta), atI_nat (j := 0) rfl, rfl, _, rfl, ?_⟩
      rw [show (Str.ofString "num") = ksN .num from rfl, dec_ks]
      refine ite2 (fun c2 => ?_) (fun c2 => ?_)
      · have hn : isNum a = none := by
          cases e : isNum a with
          | none => rfl
          | some i =>
            have := (isNum_ks a).2 ⟨i, e⟩
            rw [this] at c2
            simp at c2
        refine ⟨_, rfl, _, rfl, _, rfl, _, rfl, by show 4 ≤ sizeLine; decide, fun b nb => ⟨by show 1 ≤ sizeLine; decide, fun b2 nb2 => ?_⟩⟩
        have sb := same_upd (o := .tup [.str "if", .ref ta, w1, w2]) nb
        have sb2 := same_upd (o := .tup [.ref b]) nb2
        have hb : upd (upd H3 b (.tup [.str "if", .ref ta, w1, w2])) b2 (.tup [.ref b]) b = some (.tup [.str "if", .ref ta, w1, w2]) := sb2 _ _ upd_same
        refine q _ _ (Same.trans s03 (Same.trans sb sb2)) ?_
        obtain ⟨u1, us1, rfl, g1, k1⟩ := hw1
        obtain ⟨u2, us2, rfl, g2, k2⟩ := hw2
        have tl := Same.tle (Same.trans sb sb2)
        have tl3 := Same.tle (Same.trans s3 (Same.trans sb sb2))
        refine ⟨b2, [.ref b], rfl, upd_same, ?_⟩
        simp only [plS, hn]
        exact ⟨_, _, rfl, ⟨.ref ta, u1, u2, us1, us2, ⟨b, rfl, hb⟩, ha.mono (Same.tle (Same.trans s03 (Same.trans sb sb2))), ⟨tl3 _ _ g1, k1.mono tl3⟩, ⟨tl _ _ g2, k2.mono tl⟩⟩, rfl⟩
      · obtain ⟨i, hi⟩ : ∃ i, isNum a = some i := (isNum_ks a).1 (by simpa using c2)
        have ha2 : a = .num i := by
          cases a <;> simp [isNum] at hi
          rw [hi]
        subst ha2
        obtain ⟨ta', e5, e6⟩ := ha
        cases e5
        refine ⟨_, rfl, ta, _, 1, .int i, rfl, rfl, SqT.of (s03 _ _ e6), rfl, i, 0, rfl, rfl, _, rfl, ?_⟩
        refine ite2 (fun c3 => ?_) (fun c3 => ?_)
        · have c3 : 0 < i := of_decide_eq_true c3
          refine ⟨_, rfl, q H3 _ s03 ?_⟩
          simp only [plS, isNum, if_pos c3]
          exact hw1.mono (Same.tle s3)
        · have c3 : ¬ 0 < i := fun z => c3 (decide_eq_true z)
          refine ⟨_, rfl, q H3 _ s03 ?_⟩
          simp only [plS, isNum, if_neg c3]
          exact hw2
    | _ => simp [kw] at c
  · have i2 : inV (.str (wrd st)) [.str "inner", .str "either"] = decide (kw st ∈ [.inner, .either]) := inV_kw (kw st) [.inner, .either]
    refine ⟨_, rfl, by show 2 ≤ sizeLine; decide, fun b nb => ⟨b, _, rfl, .inr (SqT.of upd_same), rfl, rfl, _, rfl, ?_⟩⟩
    have sb := Same.trans sl (same_upd (o := .tup [.str "inner", .str "either"]) nb)
    have hl2 : upd H1 b (.tup [.str "inner", .str "either"]) l = some (.lst as) := same_upd nb _ _ hl
    generalize upd H1 b (.tup [.str "inner", .str "either"]) = H2 at sb hl2
    rw [show (if true = true then !inV (.str (wrd st)) [.str "inner", .str "either"] else inV (.str (wrd st)) [.str "inner", .str "either"]) = !decide (kw st ∈ [.inner, .either]) from congrArg (!·) i2]
    refine ite2 (fun c2 => ?_) (fun c2 => ?_)
    · have hp : plS st = [st] := by cases st <;> simp [kw] at c c2 <;> rfl
      refine ⟨_, rfl, by show 1 ≤ sizeLine; decide, fun b2 nb2 => ?_⟩
      refine q _ _ (Same.trans sb (same_upd nb2)) ?_
      rw [hp]
      exact ⟨b2, _, rfl, upd_same, _, _, rfl, hI.mono (Same.tle (Same.trans sb (same_upd nb2))), rfl⟩
    · -- an inner, an either
      obtain ⟨e, p, p2, hst⟩ : ∃ (e : Bool) (p p2 : List Stp), st = (if e = true then Stp.either p p2 else Stp.inner p p2) := by
        cases st <;> simp [kw] at c c2
        · exact ⟨false, _, _, rfl⟩
        · exact ⟨true, _, _, rfl⟩
      have hk : kw st = kA e := by rw [hst]; cases e <;> rfl
      obtain ⟨t1, t2, vs1, vs2, ea, h1, h2⟩ : ∃ t1 t2 vs1 vs2, as = [.ref t1, .ref t2] ∧ (H t1 = some (.tup vs1) ∧ IsSts H p vs1) ∧ (H t2 = some (.tup vs2) ∧ IsSts H p2 vs2) := by
        rw [hst] at hI
        cases e
        · obtain ⟨t1, t2, vs1, vs2, ⟨t', e1, e2⟩, h1, h2⟩ := hI
          cases e1
          exact ⟨t1, t2, vs1, vs2, tup_tail ht e2, h1, h2⟩
        · obtain ⟨t1, t2, vs1, vs2, ⟨t', e1, e2⟩, h1, h2⟩ := hI
          cases e1
          exact ⟨t1, t2, vs1, vs2, tup_tail ht e2, h1, h2⟩
      subst ea
      have hdc : dep0 p < n ∧ dep0 p2 < n ∧ cnt p ≤ 1000 ∧ cnt p2 ≤ 1000 := by
        rw [hst] at hd hc
        cases e <;> simp only [Bool.false_eq_true, if_false, if_true, depS, cntS] at hd hc <;> omega
      refine ⟨_, rfl, l, _, 0, _, rfl, rfl, SqL.of hl2, rfl, p, _, rfl, (isPr_mk h1).mono (Same.tle sb), hdc.1, hdc.2.2.1, fun H3 w1 s3 hw1 => ?_⟩
      refine ⟨_, rfl, l, _, 1, _, rfl, rfl, SqL.of (s3 _ _ hl2), rfl, p2, _, rfl, (isPr_mk h2).mono (Same.tle (Same.trans sb s3)), hdc.2.1, hdc.2.2.2, fun H4 w2 s4 hw2 => ?_⟩
      have s04 := Same.trans (Same.trans sb s3) s4
      refine ⟨w1, w2, rfl, ?_⟩
      have kp := pl_keeps p
      have own_go : ∀ (y : Str), y = eW e → (∀ H', Same H4 H' → ∃ c, V.bl (own e (pl p)) = .bl c ∧ if c = true then
          tRet (tTup (tCons (tTup (tCons (tVar 1) (tCons (tVar 4) (tCons (tVar 5) tNil)))) tNil)) { nx := tRet (tVar 4) { nx := fun x H' => Q V.non H', rt := Q }, rt := Q } [some (.ref t), some (.str (wrd st)), some (.ref l), none, some w1, some w2] H'
          else tNext { nx := tRet (tVar 4) { nx := fun x H' => Q V.non H', rt := Q }, rt := Q } [some (.ref t), some (.str (wrd st)), some (.ref l), none, some w1, some w2] H') →
          spOwn n [w1, .str y, .str (wrd st)] H4 (fun x H1 => ∃ c, x = V.bl c ∧ if c = true then
          tRet (tTup (tCons (tTup (tCons (tVar 1) (tCons (tVar 4) (tCons (tVar 5) tNil)))) tNil)) { nx := tRet (tVar 4) { nx := fun x H' => Q V.non H', rt := Q }, rt := Q } [some (.ref t), some (.str (wrd st)), some (.ref l), none, some w1, some w2] H1
          else tNext { nx := tRet (tVar 4) { nx := fun x H' => Q V.non H', rt := Q }, rt := Q } [some (.ref t), some (.str (wrd st)), some (.ref l), none, some w1, some w2] H1) := fun y ey go =>
        ⟨pl p, e, w1, by rw [ey, show wrd st = eA e from congrArg kwN hk], hw1.mono (Same.tle s4), Nat.lt_of_le_of_lt kp.dep hdc.1, Nat.le_trans kp.cnt hdc.2.2.1, fun H' s' => go H' s'⟩
      have go : ∀ H', Same H4 H' → ∃ c, V.bl (own e (pl p)) = .bl c ∧ if c = true then
          tRet (tTup (tCons (tTup (tCons (tVar 1) (tCons (tVar 4) (tCons (tVar 5) tNil)))) tNil)) { nx := tRet (tVar 4) { nx := fun x H' => Q V.non H', rt := Q }, rt := Q } [some (.ref t), some (.str (wrd st)), some (.ref l), none, some w1, some w2] H'
          else tNext { nx := tRet (tVar 4) { nx := fun x H' => Q V.non H', rt := Q }, rt := Q } [some (.ref t), some (.str (wrd st)), some (.ref l), none, some w1, some w2] H' := fun H5 s5 => by
        refine ⟨_, rfl, ite2 (fun c3 => ?_) (fun c3 => ?_)⟩
        · refine ⟨_, rfl, _, rfl, _, rfl, by show 3 ≤ sizeLine; decide, fun b1 nb1 => ⟨by show 1 ≤ sizeLine; decide, fun b2 nb2 => ?_⟩⟩
          have sb1 := same_upd (o := .tup [.str (wrd st), w1, w2]) nb1
          have sb2 := same_upd (o := .tup [.ref b1]) nb2
          have hb : upd (upd H5 b1 (.tup [.str (wrd st), w1, w2])) b2 (.tup [.ref b1]) b1 = some (.tup [.str (wrd st), w1, w2]) := sb2 _ _ upd_same
          have s57 := Same.trans sb1 sb2
          refine q _ _ (Same.trans s04 (Same.trans s5 s57)) ?_
          obtain ⟨u1, us1, rfl, g1, k1⟩ := hw1
          obtain ⟨u2, us2, rfl, g2, k2⟩ := hw2
          have tl1 := Same.tle (Same.trans s4 (Same.trans s5 s57))
          have tl2 := Same.tle (Same.trans s5 s57)
          refine ⟨b2, [.ref b1], rfl, upd_same, ?_⟩
          have hpl : plS st = [if e = true then Stp.either (pl p) (pl p2) else Stp.inner (pl p) (pl p2)] := by
            rw [hst]
            cases e <;> simp [plS, c3]
          rw [hpl, show wrd st = kwN (kA e) from congrArg kwN hk] at *
          cases e
          · exact ⟨_, _, rfl, ⟨u1, u2, us1, us2, ⟨b1, rfl, hb⟩, ⟨tl1 _ _ g1, k1.mono tl1⟩, ⟨tl2 _ _ g2, k2.mono tl2⟩⟩, rfl⟩
          · exact ⟨_, _, rfl, ⟨u1, u2, us1, us2, ⟨b1, rfl, hb⟩, ⟨tl1 _ _ g1, k1.mono tl1⟩, ⟨tl2 _ _ g2, k2.mono tl2⟩⟩, rfl⟩
        · refine ⟨_, rfl, q H5 _ (Same.trans s04 s5) ?_⟩
          have hpl : plS st = pl p := by
            rw [hst]
            cases e <;> simp [plS, c3]
          rw [hpl]
          exact hw1.mono (Same.tle (Same.trans s4 s5))
      refine ⟨_, rfl, _, rfl, rfl, _, rfl, ?_⟩
      rw [show (Str.ofString "inner") = kwN .inner from rfl, dec_kk]
      refine ite2 (fun c3 => ?_) (fun c3 => ?_)
      · have he : e = false := by
          have := of_decide_eq_true c3
          rw [hk] at this
          cases e
          · rfl
          · cases this
        exact ⟨_, rfl, own_go _ (by rw [he]; rfl) go⟩
      · have he : e = true := by
          cases e
          · exact absurd (decide_eq_true hk) c3
          · rfl
        exact ⟨_, rfl, own_go _ (by rw [he]; rfl) go⟩
theorem pl_one (s : Stp) : pl [s] = plS s := by simp only [pl, follow_nil]
theorem cnt_take (p : List Stp) (i : Nat) : cnt (p.take i) ≤ cnt p := by
  have := cnt_append (p.take i) (p.drop i)
  rw [List.take_append_drop] at this
  omega
theorem pl_ends {p : List Stp} {i : Nat} (h : ends (pl (p.take i)) = true) : pl p = pl (p.take i) := by
  have := pl_append (p.take i) (p.drop i)
  rw [List.take_append_drop] at this
  rw [this]
  simp [follow, h]
theorem pl_next {p : List Stp} {i : Nat} {s : Stp} (hs : p[i]? = some s) (h : ends (pl (p.take i)) = false) : pl (p.take (i + 1)) = pl (p.take i) ++ plS s := by
  rw [List.take_add_one, hs]
  show pl (p.take i ++ [s]) = _
  rw [pl_append, pl_one]
  simp [follow, h]
theorem stops_kw (s : Stp) : decide (kw s ∈ [Kw.out, Kw.retry]) = stops s := by cases s <;> rfl
theorem isSts_last {H : Hp} {p : List Stp} {vs : List V} (h : IsSts H p vs) (hn : vs ≠ []) : ∃ ws v s, vs = ws ++ [v] ∧ IsSt H s v ∧ ends p = stops s := by
  have e : vs = vs.dropLast ++ [vs.getLast hn] := (List.dropLast_concat_getLast hn).symm
  have hl := h.length
  have h0 : 0 < vs.length := List.length_pos_iff.mpr hn
  obtain ⟨s, hs, hI⟩ := IsSts.at (i := vs.length - 1) (v := vs.getLast hn) h (by rw [← List.getLast?_eq_getElem?, List.getLast?_eq_getLast hn])
  refine ⟨_, _, s, e, hI, ?_⟩
  unfold ends
  rw [List.getLast?_eq_getElem?, ← hl, hs]
theorem ok_plainer {n k : Nat} (F : Fd K mg "plainer" s_plainer ["program"]) (Cs : Cal P w K mg base k "steps_for" ["step"] (spSf n)) : Cal P w K mg base (k + 1) "plainer" ["program"] (spPl (n + 1)) := by
  refine F.ok sc_plainer (fun vs H Q ⟨p, v, h, _⟩ => by rw [h]; rfl) fun f cdv A outer s H vs Q E hr h => ?_
  obtain ⟨p, v, rfl, hp, hd, hc, q⟩ := h
  refine ⟨_, pss_cons (ps_set (i := 1) sc_plainer.nd rfl (.inl rfl) (pe_tup pa_nil))
    (pss_cons (ps_for PassesOwn.never rfl (pi_tup (pv 0)) (pg_name (i := 2) sc_plainer.nd rfl (.inl rfl))
      (pss_cons (ps_if (PW.pt (pw_and (pt_cmpR (op_ne0T hr.units0) (pv 1) (pe_tup pa_nil) (nomark _)) (pw_and1 (pt_cmpR op_in_seq (pe_ix ix_tup (pe_ix ix_tup (pv 1) (pe_un un_neg pe_int) (fun _ _ => rfl)) pe_int (fun _ _ => rfl)) (pe_tup (pa_cons pe_str (pa_cons pe_str pa_nil))) rfl)))) (pss_one (ps_ret (pv 1))) pss_nil)
      (pss_one (ps_set (i := 1) sc_plainer.nd rfl (.inl rfl) (pe_op op_catA (pv 1) (pe_cal Cs hr rfl (pa_cons (pv 2) pa_nil)))))))
    (pss_one (ps_ret (pv 1)))), ?_⟩
  obtain ⟨t, ws, rfl, ht, hs⟩ := hp
  refine ⟨Nat.zero_le _, fun a na => ?_⟩
  have sa := same_upd (o := .tup []) na
  have ha : upd H a (.tup []) a = some (.tup []) := upd_same
  generalize upd H a (.tup []) = H0 at sa ha
  refine ⟨.ref t, rfl, t, rfl, ⟨ws, SqT.of (sa _ _ ht)⟩, for_it (walk_tup (xs := ws)) (fun i σ H' => ∃ vf y2, σ = [some (.ref t), some vf, y2] ∧ Same H H' ∧ IsPr H' (pl (p.take i)) vf)
    ⟨.ref a, none, rfl, sa, a, [], rfl, ha, rfl⟩ (fun i σ H' _ ⟨_, _, _, sm, _⟩ => Same.sqT sm (SqT.of ht)) (fun i x σ H1 H2 hi ⟨vf, y2, e1, sm, hf⟩ hY => ?_) (fun σ H' ⟨vf, y2, e1, sm, hf⟩ => ?_)⟩
  · obtain ⟨e2, hx⟩ := hY
    subst e1 e2
    obtain ⟨st, hst, hI⟩ := hs.at hx
    obtain ⟨hd1, hc1⟩ := at_step hst
    obtain ⟨b, fs, rfl, hb, hfs⟩ := hf
    -- the second statement of the turn
    have add : ∀ H3, Same H2 H3 → ends (pl (p.take i)) = false → tAsg (tOp (rCatA K) (tVar 1) (tCal (spSf n) (tCons (tVar 2) tNil))) (gName 1) { nx := fun σ H' => ∃ vf y2, σ = [some (.ref t), some vf, y2] ∧ Same H H' ∧ IsPr H' (pl (p.take (i + 1))) vf, rt := Q, bk := fun _ _ => False, ct := fun _ _ => False } [some (.ref t), some (.ref b), some x] H3 := fun H3 s3 he => by
      have sm3 := Same.trans sm s3
      refine ⟨_, rfl, _, rfl, st, x, rfl, hI.mono (Same.tle sm3), by omega, by omega, fun H4 v' s4 hv' => ?_⟩
      obtain ⟨b2, gs, rfl, hb2, hgs⟩ := hv'
      have hb4 : H4 b = some (.tup fs) := s4 _ _ (s3 _ _ hb)
      have hfs4 : IsSts H4 (pl (p.take i)) fs := hfs.mono (Same.tle (Same.trans s3 s4))
      have l1 : fs.length ≤ 1000 := by
        rw [hfs.length]
        exact Nat.le_trans (len_le_cnt _) (Nat.le_trans (pl_keeps _).cnt (Nat.le_trans (cnt_take p i) hc))
      have l2 : gs.length ≤ 1000 := by
        rw [hgs.length, ← pl_one]
        refine Nat.le_trans (len_le_cnt _) (Nat.le_trans (pl_keeps _).cnt ?_)
        show cntS st + 0 ≤ 1000
        omega
      have nx := pl_next hst he
      refine ⟨b, b2, fs, gs, rfl, rfl, SqT.of hb4, SqT.of hb2, by rw [sizeLine_eq]; omega, fun e0 => ?_, fun e0 e5 => ?_, fun e0 e5 c nc => ?_⟩
      · refine ⟨.ref b2, some x, rfl, Same.trans sm3 s4, b2, gs, rfl, hb2, ?_⟩
        rw [nx]
        subst e0
        have : pl (p.take i) = [] := List.length_eq_zero_iff.mp hfs.length.symm
        rw [this]
        exact hgs
      · refine ⟨.ref b, some x, rfl, Same.trans sm3 s4, b, fs, rfl, hb4, ?_⟩
        rw [nx]
        subst e5
        have : plS st = [] := List.length_eq_zero_iff.mp hgs.length.symm
        rw [this, List.append_nil]
        exact hfs4
      · have sc := same_upd (o := .tup (fs ++ gs)) nc
        refine ⟨.ref c, some x, rfl, Same.trans (Same.trans sm3 s4) sc, c, _, rfl, upd_same, ?_⟩
        rw [nx]
        exact (hfs4.append hgs).mono (Same.tle sc)
    have ret : ∀ H3, Same H2 H3 → ends (pl (p.take i)) = true → Q (.ref b) H3 := fun H3 s3 he => by
      refine q H3 _ (Same.trans sm s3) ?_
      rw [pl_ends he]
      exact ⟨b, fs, rfl, s3 _ _ hb, hfs.mono (Same.tle s3)⟩
    refine ⟨_, rfl, Nat.zero_le _, fun c nc => ⟨b, c, fs, rfl, rfl, SqT.of (same_upd nc _ _ hb), SqT.of upd_same, _, rfl, ?_⟩⟩
    have sc := same_upd (o := .tup []) nc
    generalize upd H2 c (.tup []) = H3 at sc
    by_cases hn : fs = []
    · subst hn
      have : pl (p.take i) = [] := List.length_eq_zero_iff.mp hfs.length.symm
      exact add H3 sc (by rw [this]; rfl)
    · rw [show (!fs.isEmpty) = true by cases fs <;> simp at hn ⊢]
      obtain ⟨ws', v, sl, e5, hv, he⟩ := isSts_last hfs hn
      obtain ⟨t3, as3, rfl, h3, _⟩ := hv.open
      refine ⟨_, rfl, 1, rfl, b, fs, -1, .ref t3, rfl, rfl, SqT.of (sc _ _ hb), by rw [e5]; exact atI_last _ _, t3, _, 0, .str (wrd sl), rfl, rfl, SqT.of (sc _ _ h3), atI_nat (j := 0) rfl, by show 2 ≤ sizeLine; decide, fun d nd => ⟨d, _, rfl, .inr (SqT.of upd_same), rfl, rfl, _, rfl, ?_⟩⟩
      have sd := Same.trans sc (same_upd (o := .tup [.str "out", .str "retry"]) nd)
      have i2 : inV (.str (wrd sl)) [.str "out", .str "retry"] = stops sl := (inV_kw (kw sl) [.out, .retry]).trans (stops_kw sl)
      rw [show (if false = true then !inV (.str (wrd sl)) [.str "out", .str "retry"] else inV (.str (wrd sl)) [.str "out", .str "retry"]) = stops sl from i2]
      refine ite2 (fun c5 => ?_) (fun c5 => ?_)
      · exact ⟨_, rfl, ret _ sd (by rw [he]; exact c5)⟩
      · exact add _ sd (by rw [he]; simpa using c5)
  · subst e1
    refine ⟨_, rfl, q H' _ sm ?_⟩
    rw [List.take_of_length_le (by rw [hs.length]; exact Nat.le_refl _)] at hf
    exact hf
/-- all three, by the depth -/
theorem ok_plain (Fo : Fd K mg "has_own" s_has_own ["program", "word", "around"]) (Fs : Fd K mg "steps_for" s_steps_for ["step"]) (Fp : Fd K mg "plainer" s_plainer ["program"]) (ga : mg "any" = none) :
    ∀ n, Cal P w K mg base (2 * n) "plainer" ["program"] (spPl n)
  | 0 => Fp.none fun vs H Q ⟨p, v, _, _, h, _⟩ => absurd h (Nat.not_lt_zero _)
  | n + 1 => ok_plainer Fp (ok_steps_for Fs (ok_plain Fo Fs Fp ga n) ((ok_has_own Fo ga n).mono (by show n ≤ 2 * n; omega)))
end
end Pk
-- ## PkLawA
set_option Elab.async false
set_option linter.all false
set_option maxRecDepth 100000
set_option maxHeartbeats 4000000
namespace Pk
open PySem PySem.Spec PyProof.Rows L2
/-! ### _law_own -/
abbrev N_law_own : List Str := ["_law_program_here", "_law_word", "_law_around", "_law_rest", "_law_step_now"]
theorem sc_law_own : FnScope N_law_own ["_law_program_here", "_law_word", "_law_around"] (defScope s_law_own) := ⟨rfl, rfl, rfl, by decide +kernel, rfl, by decide +kernel, by decide +kernel⟩
/-- what is laid on the pile -/
def lawX (e : Bool) : Stp → List Stp
  | .ite _ p q => p ++ q
  | .inner p q => if e then p ++ q else q
  | .either p q => if e then q else p ++ q
  | _ => []
theorem ownS_law (e : Bool) (s : Stp) : ownS e s = (isW e s || own e (lawX e s)) := by
  cases s <;> cases e <;> simp [ownS, isW, lawX, own, own_append]
theorem cnt_law (e : Bool) (s : Stp) : cnt (lawX e s) < cntS s := by
  cases s <;> cases e <;> simp only [lawX, cntS, cnt, cnt_append, Bool.false_eq_true, if_false, if_true] <;> omega
def isC (s : Stp) : Bool := decide (kw s ∈ [Kw.ite, Kw.inner, Kw.either])
def spLawOwn : SpN := fun vs H Q => ∃ p e v, vs = [v, .str (eW e), .str (eA e)] ∧ IsPr H p v ∧ cnt p ≤ 1000 ∧ ∀ H', Same H H' → Q (.bl (own e p)) H'
/-- a compound step's programs are the last two items of its tuple -/
theorem comp_open {H : Hp} {s : Stp} {t : Addr} {as : List V} (hI : IsSt H s (.ref t)) (ht : H t = some (.tup (.str (wrd s) :: as))) (hc : isC s = true) :
    ∃ p q t1 t2 vs1 vs2 bs, as = bs ++ [.ref t1, .ref t2] ∧ (H t1 = some (.tup vs1) ∧ IsSts H p vs1) ∧ (H t2 = some (.tup vs2) ∧ IsSts H q vs2) ∧ parts s = [p, q] ∧ bs.length = (if kw s = .ite then 1 else 0) := by
  cases s with
  | ite a p q =>
    obtain ⟨va, t1, t2, vs1, vs2, ⟨t', e1, e2⟩, ha, h1, h2⟩ := hI
    cases e1
    exact ⟨p, q, t1, t2, vs1, vs2, [va], tup_tail ht e2, h1, h2, rfl, rfl⟩
  | inner p q =>
    obtain ⟨t1, t2, vs1, vs2, ⟨t', e1, e2⟩, h1, h2⟩ := hI
    cases e1
    exact ⟨p, q, t1, t2, vs1, vs2, [], tup_tail ht e2, h1, h2, rfl, rfl⟩
  | either p q =>
    obtain ⟨t1, t2, vs1, vs2, ⟨t', e1, e2⟩, h1, h2⟩ := hI
    cases e1
    exact ⟨p, q, t1, t2, vs1, vs2, [], tup_tail ht e2, h1, h2, rfl, rfl⟩
  | _ => simp [isC, kw] at hc
theorem atI_m1 {α : Type} (xs : List α) (u v : α) : atI (xs ++ [u, v]) (-1) = some v := by
  rw [show xs ++ [u, v] = (xs ++ [u]) ++ [v] by simp]
  exact atI_last _ _
theorem atI_m2 {α : Type} (xs : List α) (u v : α) : atI (xs ++ [u, v]) (-2) = some u := by
  have hl : (xs ++ [u, v]).length = xs.length + 2 := by simp
  have e : ixN (xs ++ [u, v]).length (-2) = some xs.length := by
    unfold ixN
    rw [hl, if_neg (by decide), if_pos (by omega)]
    congr 1
    omega
  unfold atI
  rw [e]
  simp
section
variable {P : Program} {w : World} {K : PySem.W.Frag} {mg : Str → Option Value} {base : Heap}
theorem ok_law_own {k : Nat} (F : Fd K mg "_law_own" s_law_own ["_law_program_here", "_law_word", "_law_around"]) (gl : mg "list" = none) :
    Cal P w K mg base (k + 1) "_law_own" ["_law_program_here", "_law_word", "_law_around"] spLawOwn := by
  refine F.ok sc_law_own (fun vs H Q ⟨p, e, v, h, _⟩ => by rw [h]; rfl) fun f cdv A outer s H vs Q E hr h => ?_
  obtain ⟨p, e, v, rfl, hp, hc, q⟩ := h
  refine ⟨_, pss_cons (ps_set (i := 3) sc_law_own.nd rfl (.inl rfl) (pe_callTy call_list_of (by rfl) gl (by decide +kernel) (pa_cons (pv 0) pa_nil)))
    (pss_cons (ps_while PassesOwn.never (pt_cmpR (op_ne0L hr.units0) (pv 3) (pe_lst pa_nil) (nomark _))
      (pss_cons (ps_set (i := 4) sc_law_own.nd rfl (.inl rfl) (pe_bm0 PySem.F.plainAttrs_list PySem.F.slot_list_pop PySem.F.type_list_pop mt_pop (pv 3)))
      (pss_cons (ps_if (pt_cmpR op_eq (pe_ix ix_tup (pv 4) pe_int (fun _ _ => rfl)) (pv 1) (nomark _)) (pss_one (ps_ret pe_bl)) pss_nil)
      (pss_one (ps_if (pt_cmpR op_in_seq (pe_ix ix_tup (pv 4) pe_int (fun _ _ => rfl)) (pe_tup (pa_cons pe_str (pa_cons pe_str (pa_cons pe_str pa_nil)))) rfl)
        (pss_one (ps_expr (pe_bm PySem.F.plainAttrs_list PySem.F.slot_list_extend PySem.F.type_list_extend mt_extendT (pv 3)
          (pa_cons (pe_ifExp (pt_cmpR op_eq (pe_ix ix_tup (pv 4) pe_int (fun _ _ => rfl)) (pv 2) (nomark _)) (pe_ix ix_tup (pv 4) (pe_un un_neg pe_int) (fun _ _ => rfl))
            (pe_op op_catA (pe_ix ix_tup (pv 4) (pe_un un_neg pe_int) (fun _ _ => rfl)) (pe_ix ix_tup (pv 4) (pe_un un_neg pe_int) (fun _ _ => rfl)))) pa_nil)))) pss_nil)))))
    (pss_one (ps_ret pe_bl))), ?_⟩
  obtain ⟨t, ws, rfl, ht, hs⟩ := hp
  refine ⟨.ref t, rfl, t, ws, rfl, .inr (SqT.of ht), fun r nr => ?_⟩
  refine ⟨fun m σ H' => ∃ y4 L us, m = cnt L ∧ σ = [some (.ref t), some (.str (eW e)), some (.str (eA e)), some (.ref r), y4] ∧ Same H H' ∧ H' r = some (.lst us) ∧ IsSts H' L us ∧ own e p = own e L ∧ cnt L ≤ 1000,
    ⟨cnt p, none, p, ws, rfl, rfl, same_upd nr, upd_same, hs.mono (Same.tle (same_upd nr)), rfl, hc⟩, ?_⟩
  rintro m σ H1 ⟨y4, L, us, rfl, rfl, sm, hr1, hL, ho, hcL⟩
  refine ⟨_, rfl, Nat.zero_le _, fun c nc => ⟨r, c, us, rfl, rfl, SqL.of (same_upd nc _ _ hr1), SqL.of upd_same, _, rfl, ?_⟩⟩
  have sc := same_upd (o := .lst []) nc
  have sm2 := Same.trans sm sc
  have hr2 := sc _ _ hr1
  have hL2 := hL.mono (Same.tle sc)
  generalize upd H1 c (.lst []) = H2 at sc sm2 hr2 hL2
  by_cases hn : us = []
  · subst hn
    have : L = [] := List.length_eq_zero_iff.mp hL.length.symm
    subst this
    have := q _ sm2
    rw [ho] at this
    exact this
  · rw [show (!us.isEmpty) = true by cases us <;> simp at hn ⊢]
    -- the last step is taken
    obtain ⟨st, L', v, us', rfl, rfl, hv, hus⟩ : ∃ st L' v us', L = L' ++ [st] ∧ us = us' ++ [v] ∧ IsSt H2 st v ∧ IsSts H2 L' us' := by
      have e1 : us = us.dropLast ++ [us.getLast hn] := (List.dropLast_concat_getLast hn).symm
      have hl := hL2.length
      have h0 : 0 < us.length := List.length_pos_iff.mpr hn
      have hL0 : L ≠ [] := fun z => by rw [z] at hl; simp at hl; exact hn hl
      have e2 : L = L.dropLast ++ [L.getLast hL0] := (List.dropLast_concat_getLast hL0).symm
      obtain ⟨s2, hs2, hI2⟩ := IsSts.at (i := us.length - 1) (v := us.getLast hn) hL2 (by rw [← List.getLast?_eq_getElem?, List.getLast?_eq_getLast hn])
      rw [hl, ← List.getLast?_eq_getElem?, List.getLast?_eq_getLast hL0] at hs2
      cases hs2
      refine ⟨_, _, _, _, e2, e1, hI2, ?_⟩
      have := hL2.take (L.length - 1)
      rw [← List.dropLast_eq_take, ← hl, ← List.dropLast_eq_take] at this
      exact this
    rw [cnt_append] at hcL
    have hcs : cntS st + cnt L' ≤ 1000 := by
      have : cnt [st] = cntS st := by simp [cnt]
      omega
    refine ⟨fun σ' H' => ∃ y4 L2 us2, cnt L2 < cnt (L' ++ [st]) ∧ σ' = [some (.ref t), some (.str (eW e)), some (.str (eA e)), some (.ref r), y4] ∧ Same H H' ∧ H' r = some (.lst us2) ∧ IsSts H' L2 us2 ∧ own e p = own e L2 ∧ cnt L2 ≤ 1000,
      fun σ' H' ⟨y4, L2, us2, h1, h2, h3, h4, h5, h6, h7⟩ => ⟨cnt L2, h1, y4, L2, us2, rfl, h2, h3, h4, h5, h6, h7⟩, ?_⟩
    refine ⟨.ref r, rfl, .inl ⟨rfl, _, SqL.of hr2⟩, r, us' ++ [v], v, rfl, rfl, hr2, by simp, ?_⟩
    have hdl : (us' ++ [v]).dropLast = us' := by simp
    rw [hdl]
    have sm3 : Same H (upd H2 r (.lst us')) := same_set sm2 nr
    have tl : TLe H2 (upd H2 r (.lst us')) := fun a xs h => by
      rw [upd_ne (ne_of h hr2 (by intro z; cases z))]
      exact h
    have hr3 : upd H2 r (.lst us') r = some (.lst us') := upd_same
    have hv3 := hv.mono tl
    have hus3 := hus.mono tl
    generalize upd H2 r (.lst us') = H3 at sm3 hr3 hv3 hus3
    obtain ⟨ts, as, rfl, hts, hlen⟩ := hv3.open
    refine ⟨_, rfl, ts, _, 0, .str (wrd st), rfl, rfl, SqT.of hts, atI_nat (j := 0) rfl, _, rfl, rfl, _, rfl, ?_⟩
    rw [dec_kw]
    have oe : own e (L' ++ [st]) = (own e L' || (isW e st || own e (lawX e st))) := by
      rw [own_append, ← ownS_law]
      simp [own]
    rw [oe] at ho
    refine ite2 (fun c1 => ?_) (fun c1 => ?_)
    · have hw : isW e st = true := (isW_kw e st).1 (of_decide_eq_true c1)
      rw [hw] at ho
      have h2 := q _ sm3
      rw [ho, show (own e L' || (true || own e (lawX e st))) = true by simp] at h2
      exact h2
    · have hw : isW e st = false := by
        cases c2 : isW e st with
        | false => rfl
        | true => exact absurd (decide_eq_true ((isW_kw e st).2 c2)) c1
      rw [hw, Bool.false_or] at ho
      refine ⟨_, rfl, ts, _, 0, .str (wrd st), rfl, rfl, SqT.of hts, atI_nat (j := 0) rfl, by show 3 ≤ sizeLine; decide, fun d nd => ⟨d, _, rfl, .inr (SqT.of upd_same), rfl, rfl, _, rfl, ?_⟩⟩
      have sd := same_upd (o := .tup [.str "if", .str "inner", .str "either"]) nd
      have sm4 := Same.trans sm3 sd
      have hr4 := sd _ _ hr3
      have hts4 := sd _ _ hts
      have hv4 := hv3.mono (Same.tle sd)
      have hus4 := hus3.mono (Same.tle sd)
      generalize upd H3 d (.tup [.str "if", .str "inner", .str "either"]) = H4 at sd sm4 hr4 hts4 hv4 hus4
      have i3 : inV (.str (wrd st)) [.str "if", .str "inner", .str "either"] = isC st := inV_kw (kw st) [.ite, .inner, .either]
      rw [show (if false = true then !inV (.str (wrd st)) [.str "if", .str "inner", .str "either"] else inV (.str (wrd st)) [.str "if", .str "inner", .str "either"]) = isC st from i3]
      refine ite2 (fun c2 => ?_) (fun c2 => ?_)
      · obtain ⟨p1, p2, t1, t2, vs1, vs2, bs, ea, h1, h2, hpt, _⟩ := comp_open hv4 hts4 c2
        have tup2 : SqT K H4 ts ((.str (wrd st) :: bs) ++ [.ref t1, .ref t2]) := by
          refine SqT.of ?_
          rw [hts4, ea]
          rfl
        -- what is laid on the pile, then the end of the turn
        have fin : ∀ H5 x us5, Same H4 H5 → H5 x = some (.tup us5) → IsSts H5 (lawX e st) us5 → us5.length ≤ 2000 → rExtendT K (.ref r) [.ref x] H5 fun v' H6 => ∃ y4 L2 us2, cnt L2 < cnt (L' ++ [st]) ∧ [some (V.ref t), some (V.str (eW e)), some (V.str (eA e)), some (V.ref r), some (V.ref ts)] = [some (.ref t), some (.str (eW e)), some (.str (eA e)), some (.ref r), y4] ∧ Same H H6 ∧ H6 r = some (.lst us2) ∧ IsSts H6 L2 us2 ∧ own e p = own e L2 ∧ cnt L2 ≤ 1000 := fun H5 x us5 s5 hx h5 hl5 => by
          have hu : us'.length ≤ 1000 := by
            rw [hus.length]
            exact Nat.le_trans (len_le_cnt _) (by omega)
          have hr5 := s5 _ _ hr4
          refine ⟨r, x, us', us5, rfl, rfl, hr5, SqT.of hx, by rw [sizeLine_eq]; omega, ?_⟩
          have tl5 : TLe H5 (upd H5 r (.lst (us' ++ us5))) := fun a xs h => by
            rw [upd_ne (ne_of h hr5 (by intro z; cases z))]
            exact h
          have hX := cnt_law e st
          refine ⟨_, L' ++ lawX e st, us' ++ us5, ?_, rfl, same_set (Same.trans sm4 s5) nr, upd_same, ?_, ?_, ?_⟩
          · rw [cnt_append, cnt_append]
            have : cnt [st] = cntS st := by simp [cnt]
            omega
          · exact (((hus4.mono (Same.tle s5)).append h5)).mono tl5
          · rw [ho, own_append]
          · rw [cnt_append]
            omega
        have lb : ∀ {vs : List V} {r : List Stp}, IsSts H4 r vs → r ∈ parts st → vs.length ≤ 1000 := fun {vs r} h hm => by
          rw [h.length]
          refine Nat.le_trans (len_le_cnt _) ?_
          have : cnt r ≤ cntS st := by
            cases st <;> simp [parts] at hm <;> (rcases hm with rfl | rfl) <;> simp only [cntS] <;> omega
          omega
        have m1 : p1 ∈ parts st := by rw [hpt]; simp
        have m2 : p2 ∈ parts st := by rw [hpt]; simp
        refine ⟨.ref r, rfl, .inl ⟨rfl, _, SqL.of hr4⟩, ?_⟩
        refine ⟨_, rfl, ts, _, 0, .str (wrd st), rfl, rfl, SqT.of hts4, atI_nat (j := 0) rfl, _, rfl, rfl, _, rfl, ?_⟩
        rw [dec_kw]
        refine ite2 (fun c3 => ?_) (fun c3 => ?_)
        · refine ⟨_, rfl, 2 - 1, rfl, ts, _, -1, .ref t2, rfl, rfl, tup2, atI_m1 _ _ _, ?_⟩
          refine fin H4 t2 vs2 (Same.refl H4) h2.1 ?_ (Nat.le_trans (lb h2.2 m2) (by omega))
          have : lawX e st = p2 := by
            have := of_decide_eq_true c3
            cases st <;> cases e <;> simp [kw, kA, parts] at this hpt <;> simp [lawX, hpt]
          rw [this]
          exact h2.2
        · have hX : lawX e st = p1 ++ p2 := by
            cases st <;> cases e <;> simp [kw, kA, parts, isC] at c3 hpt c2 <;> simp [lawX, hpt]
          refine ⟨_, rfl, 2, rfl, ts, _, -2, .ref t1, rfl, rfl, tup2, atI_m2 _ _ _, ?_⟩
          refine ⟨_, rfl, 1, rfl, ts, _, -1, .ref t2, rfl, rfl, tup2, atI_m1 _ _ _, ?_⟩
          have l1 := lb h1.2 m1
          have l2 := lb h2.2 m2
          refine ⟨t1, t2, vs1, vs2, rfl, rfl, SqT.of h1.1, SqT.of h2.1, by rw [sizeLine_eq]; omega, fun e0 => ?_, fun e0 e5 => ?_, fun e0 e5 x nx => ?_⟩
          · refine fin H4 t2 vs2 (Same.refl H4) h2.1 ?_ (by omega)
            have : p1 = [] := by
              have := h1.2.length
              rw [e0] at this
              exact List.length_eq_zero_iff.mp this.symm
            rw [hX, this]
            exact h2.2
          · refine fin H4 t1 vs1 (Same.refl H4) h1.1 ?_ (by omega)
            have : p2 = [] := by
              have := h2.2.length
              rw [e5] at this
              exact List.length_eq_zero_iff.mp this.symm
            rw [hX, this, List.append_nil]
            exact h1.2
          · have sx := same_upd (o := .tup (vs1 ++ vs2)) nx
            refine fin _ x (vs1 ++ vs2) sx upd_same ?_ (by rw [List.length_append]; omega)
            rw [hX]
            exact (h1.2.append h2.2).mono (Same.tle sx)
      · have hX : lawX e st = [] := by cases st <;> simp [isC, kw] at c2 <;> rfl
        rw [hX] at ho
        refine ⟨_, L', us', ?_, rfl, sm4, hr4, hus4, by simpa [own] using ho, by omega⟩
        rw [cnt_append]
        have := cntS_pos st
        have : cnt [st] = cntS st := by simp [cnt]
        omega
end
end Pk
-- ## PkLawB
set_option Elab.async false
set_option linter.all false
set_option maxRecDepth 100000
set_option maxHeartbeats 4000000
namespace Pk
open PySem PySem.Spec PyProof.Rows L2
/-! ### short readings -/
section
variable {K : PySem.W.Frag} {H : Hp} {a b : Addr} {xs ys : List V} {Q : VK}
theorem cat_any (ha : H a = some (.tup xs)) (hb : H b = some (.tup ys)) (hl : xs.length + ys.length ≤ 10000) (q : ∀ c H', Same H H' → H' c = some (.tup (xs ++ ys)) → Q (.ref c) H') : rCatA K (.ref a) (.ref b) H Q := by
  refine ⟨a, b, xs, ys, rfl, rfl, SqT.of ha, SqT.of hb, by rw [sizeLine_eq]; omega, fun e0 => ?_, fun e0 e1 => ?_, fun e0 e1 c nc => ?_⟩
  · exact q b H (Same.refl H) (by rw [hb, e0]; rfl)
  · exact q a H (Same.refl H) (by rw [ha, e1, List.append_nil])
  · exact q c _ (same_upd nc) upd_same
theorem cut_to (xs : List V) (k : Nat) : cutV xs none (some (k : Int)) = xs.take k := by
  unfold cutV
  rw [HT.sIx_nat, HT.sIx_none]
  by_cases h : k ≤ xs.length
  · rw [Nat.min_eq_left h]
    rfl
  · have h' : xs.length ≤ k := by omega
    rw [Nat.min_eq_right h', List.take_of_length_le h']
    show (xs.drop 0).take (xs.length - 0) = xs
    rw [List.drop_zero]
    exact List.take_of_length_le (by omega)
theorem slice_to {k : Nat} (ha : H a = some (.tup xs)) (hk : k < xs.length) (q : ∀ c H', Same H H' → H' c = some (.tup (xs.take k)) → Q (.ref c) H') : rSlT K (.ref a) none (some (k : Int)) H Q := by
  refine ⟨a, xs, rfl, SqT.of ha, fun ⟨_, h⟩ => ?_, fun p np => q p _ (same_upd np) (by rw [upd_same, cut_to])⟩
  rw [HT.sIx_nat, Nat.min_eq_left (by omega)] at h
  omega
theorem slice_from {k : Nat} (ha : H a = some (.tup xs)) (h0 : 0 < k) (hk : k ≤ xs.length) (q : ∀ c H', Same H H' → H' c = some (.tup (xs.drop k)) → Q (.ref c) H') : rSlT K (.ref a) (some (k : Int)) none H Q := by
  refine ⟨a, xs, rfl, SqT.of ha, fun ⟨h, _⟩ => ?_, fun p np => q p _ (same_upd np) (by rw [upd_same, cut_from])⟩
  rw [HT.sIx_nat, Nat.min_eq_left hk] at h
  omega
end
def OptPr (H : Hp) (o : Option (List Stp)) (v : V) : Prop := match o with
  | none => v = .non
  | some q => IsPr H q v

/-! ### _law_place -/
abbrev N_law_place : List Str := ["_law_step_now"]
theorem sc_law_place : FnScope N_law_place ["_law_step_now"] (defScope s_law_place) := ⟨rfl, rfl, rfl, by decide +kernel, rfl, by decide +kernel, by decide +kernel⟩
def spPlace : SpN := fun vs H Q => ∃ s v, vs = [v] ∧ IsSt H s v ∧ cntS s ≤ 1000 ∧ ∀ H' v', Same H H' → OptPr H' (place s) v' → Q v' H'
section
variable {P : Program} {w : World} {K : PySem.W.Frag} {mg : Str → Option Value} {base : Heap}
theorem ok_law_place {k : Nat} (F : Fd K mg "_law_place" s_law_place ["_law_step_now"]) (Co : Cal P w K mg base k "_law_own" ["_law_program_here", "_law_word", "_law_around"] spLawOwn) :
    Cal P w K mg base (k + 1) "_law_place" ["_law_step_now"] spPlace := by
  refine F.ok sc_law_place (fun vs H Q ⟨p, v, h, _⟩ => by rw [h]; rfl) fun f cdv A outer s H vs Q E hr h => ?_
  obtain ⟨st, v, rfl, hI, hc, q⟩ := h
  refine ⟨_, pss_cons (ps_if (PW.pt (pw_and (pt_cmpR op_eq (pe_ix ix_tup (pv 0) pe_int (fun _ _ => rfl)) pe_str (nomark _)) (pw_and1 (pt_cmpR op_eq (pe_ix ix_tup (pe_ix ix_tup (pv 0) pe_int (fun _ _ => rfl)) pe_int (fun _ _ => rfl)) pe_str (nomark _)))))
      (pss_one (ps_ret (pe_ifExp (pt_cmpR op_gt (pe_ix ix_tup (pe_ix ix_tup (pv 0) pe_int (fun _ _ => rfl)) pe_int (fun _ _ => rfl)) pe_int (nomark _)) (pe_ix ix_tup (pv 0) pe_int (fun _ _ => rfl)) (pe_ix ix_tup (pv 0) pe_int (fun _ _ => rfl))))) pss_nil)
    (pss_cons (ps_if (PW.pt (pw_and (pt_cmpR op_eq (pe_ix ix_tup (pv 0) pe_int (fun _ _ => rfl)) pe_str (nomark _)) (pw_and1 (pt_not (pt_val (pe_cal Co hr rfl (pa_cons (pe_ix ix_tup (pv 0) pe_int (fun _ _ => rfl)) (pa_cons pe_str (pa_cons pe_str pa_nil)))))))))
      (pss_one (ps_ret (pe_ix ix_tup (pv 0) pe_int (fun _ _ => rfl)))) pss_nil)
    (pss_cons (ps_if (PW.pt (pw_and (pt_cmpR op_eq (pe_ix ix_tup (pv 0) pe_int (fun _ _ => rfl)) pe_str (nomark _)) (pw_and1 (pt_not (pt_val (pe_cal Co hr rfl (pa_cons (pe_ix ix_tup (pv 0) pe_int (fun _ _ => rfl)) (pa_cons pe_str (pa_cons pe_str pa_nil)))))))))
      (pss_one (ps_ret (pe_ix ix_tup (pv 0) pe_int (fun _ _ => rfl)))) pss_nil)
    (pss_one (ps_ret pe_non)))), ?_⟩
  obtain ⟨t, as, rfl, ht, hlen⟩ := hI.open
  have word : ∀ H', Same H H' → atI (V.str (wrd st) :: as) 0 = some (.str (wrd st)) := fun _ _ => atI_nat (j := 0) rfl
  refine ⟨_, rfl, t, _, 0, .str (wrd st), rfl, rfl, SqT.of ht, atI_nat (j := 0) rfl, rfl, _, rfl, ?_⟩
  rw [show (Str.ofString "if") = kwN .ite from rfl, dec_kw]
  -- the second and the third question
  have third : ∀ H', Same H H' → (kw st = .ite → place st = none) → (kw st = .inner → place st = none) → tSeq (tIfS (tAnd (tTest (tOp rEq (tOp (rIxT K) (tVar 0) (tC (.int 0))) (tC (.str "either")))) (tNot (tB (tCal spLawOwn (tCons (tOp (rIxT K) (tVar 0) (tC (.int 1))) (tCons (tC (.str "retry")) (tCons (tC (.str "either")) tNil))))))) (tRet (tOp (rIxT K) (tVar 0) (tC (.int 1)))) tNext) (tRet (tC .non)) { nx := fun _ H' => Q .non H', rt := Q } [some (.ref t)] H' := fun H' s' hi1 hi2 => by
    refine ⟨_, rfl, t, _, 0, .str (wrd st), rfl, rfl, SqT.of (s' _ _ ht), atI_nat (j := 0) rfl, rfl, _, rfl, ?_⟩
    rw [show (Str.ofString "either") = kwN .either from rfl, dec_kw]
    refine ite2 (fun c => ?_) (fun c => ?_)
    · have ck := of_decide_eq_true c
      cases st with
      | either p p2 =>
        obtain ⟨t1, t2, vs1, vs2, ⟨t', e1, e2⟩, h1, h2⟩ := hI
        cases e1
        simp only [cntS] at hc
        refine ⟨_, rfl, t, _, 1, .ref t1, rfl, rfl, SqT.of (s' _ _ e2), rfl, p, true, _, rfl, (isPr_mk h1).mono (Same.tle s'), by omega, fun H2 s2 => ⟨_, rfl, ?_⟩⟩
        refine ite2 (fun c2 => ?_) (fun c2 => ?_)
        · refine ⟨_, rfl, t, _, 1, .ref t1, rfl, rfl, SqT.of (s2 _ _ (s' _ _ e2)), rfl, q H2 _ (Same.trans s' s2) ?_⟩
          have : own true p = false := by simpa using c2
          simp only [place, this]
          exact (isPr_mk h1).mono (Same.tle (Same.trans s' s2))
        · refine q H2 _ (Same.trans s' s2) ?_
          have : own true p = true := by simpa using c2
          simp only [place, this]
          rfl
      | _ => simp [kw] at ck
    · refine q H' _ s' ?_
      have : place st = none := by
        cases st <;> first | rfl | exact hi1 rfl | exact hi2 rfl | simp [kw] at c
      rw [this]
      rfl
  have second : ∀ H', Same H H' → (kw st = .ite → place st = none) → tSeq (tIfS (tAnd (tTest (tOp rEq (tOp (rIxT K) (tVar 0) (tC (.int 0))) (tC (.str "inner")))) (tNot (tB (tCal spLawOwn (tCons (tOp (rIxT K) (tVar 0) (tC (.int 1))) (tCons (tC (.str "out")) (tCons (tC (.str "inner")) tNil))))))) (tRet (tOp (rIxT K) (tVar 0) (tC (.int 1)))) tNext)
      (tSeq (tIfS (tAnd (tTest (tOp rEq (tOp (rIxT K) (tVar 0) (tC (.int 0))) (tC (.str "either")))) (tNot (tB (tCal spLawOwn (tCons (tOp (rIxT K) (tVar 0) (tC (.int 1))) (tCons (tC (.str "retry")) (tCons (tC (.str "either")) tNil))))))) (tRet (tOp (rIxT K) (tVar 0) (tC (.int 1)))) tNext) (tRet (tC .non))) { nx := fun _ H' => Q .non H', rt := Q } [some (.ref t)] H' := fun H' s' hi1 => by
    refine ⟨_, rfl, t, _, 0, .str (wrd st), rfl, rfl, SqT.of (s' _ _ ht), atI_nat (j := 0) rfl, rfl, _, rfl, ?_⟩
    rw [show (Str.ofString "inner") = kwN .inner from rfl, dec_kw]
    refine ite2 (fun c => ?_) (fun c => ?_)
    · have ck := of_decide_eq_true c
      cases st with
      | inner p p2 =>
        obtain ⟨t1, t2, vs1, vs2, ⟨t', e1, e2⟩, h1, h2⟩ := hI
        cases e1
        simp only [cntS] at hc
        refine ⟨_, rfl, t, _, 1, .ref t1, rfl, rfl, SqT.of (s' _ _ e2), rfl, p, false, _, rfl, (isPr_mk h1).mono (Same.tle s'), by omega, fun H2 s2 => ⟨_, rfl, ?_⟩⟩
        refine ite2 (fun c2 => ?_) (fun c2 => ?_)
        · refine ⟨_, rfl, t, _, 1, .ref t1, rfl, rfl, SqT.of (s2 _ _ (s' _ _ e2)), rfl, q H2 _ (Same.trans s' s2) ?_⟩
          have : own false p = false := by simpa using c2
          simp only [place, this]
          exact (isPr_mk h1).mono (Same.tle (Same.trans s' s2))
        · refine third H2 (Same.trans s' s2) (fun z => by simp [kw] at z) fun _ => ?_
          have : own false p = true := by simpa using c2
          simp only [place, this]
          rfl
      | _ => simp [kw] at ck
    · exact third H' s' hi1 fun z => absurd (decide_eq_true z) c
  refine ite2 (fun c => ?_) (fun c => ?_)
  · have ck := of_decide_eq_true c
    cases st with
    | ite a p p2 =>
      obtain ⟨va, t1, t2, vs1, vs2, ⟨t', e1, e2⟩, ha, h1, h2⟩ := hI
      cases e1
      obtain ⟨ta, bs, rfl, hta, hlen2⟩ := ha.open
      refine ⟨_, rfl, t, _, 1, .ref ta, rfl, rfl, SqT.of e2, rfl, ta, _, 0, .str (ksN (ks a)), rfl, rfl, SqT.of hta, atI_nat (j := 0) rfl, rfl, _, rfl, ?_⟩
      rw [show (Str.ofString "num") = ksN .num from rfl, dec_ks]
      refine ite2 (fun c2 => ?_) (fun c2 => ?_)
      · obtain ⟨i, hi⟩ : ∃ i, isNum a = some i := (isNum_ks a).1 (by simpa using c2)
        have ha2 : a = .num i := by
          cases a <;> simp [isNum] at hi
          rw [hi]
        subst ha2
        obtain ⟨ta', e5, e6⟩ := ha
        cases e5
        refine ⟨_, rfl, t, _, 1, .ref ta, rfl, rfl, SqT.of e2, rfl, ta, _, 1, .int i, rfl, rfl, SqT.of e6, rfl, i, 0, rfl, rfl, _, rfl, ?_⟩
        refine ite2 (fun c3 => ?_) (fun c3 => ?_)
        · have c3 : 0 < i := of_decide_eq_true c3
          refine ⟨_, rfl, t, _, 2, .ref t1, rfl, rfl, SqT.of e2, rfl, q H _ (Same.refl H) ?_⟩
          simp only [place, isNum, Option.map_some, if_pos c3]
          exact isPr_mk h1
        · have c3 : ¬ 0 < i := fun z => c3 (decide_eq_true z)
          refine ⟨_, rfl, t, _, 3, .ref t2, rfl, rfl, SqT.of e2, rfl, q H _ (Same.refl H) ?_⟩
          simp only [place, isNum, Option.map_some, if_neg c3]
          exact isPr_mk h2
      · refine second H (Same.refl H) fun _ => ?_
        cases hn : isNum a with
        | none => simp [place, hn]
        | some i => exact absurd (decide_eq_true ((isNum_ks a).2 ⟨i, hn⟩)) c2
    | _ => simp [kw] at ck
  · exact second H (Same.refl H) fun z => absurd (decide_eq_true z) c
end
end Pk
-- ## PkLawC
set_option Elab.async false
set_option linter.all false
set_option maxRecDepth 100000
set_option maxHeartbeats 4000000
namespace Pk
open PySem PySem.Spec PyProof.Rows L2
/-! ### _law_turned -/
theorem drop_cons {α : Type} {p : List α} {i : Nat} {s : α} (h : p[i]? = some s) : p.drop i = s :: p.drop (i + 1) := by
  obtain ⟨hi, e⟩ := List.getElem?_eq_some_iff.mp h
  rw [List.drop_eq_getElem_cons hi, e]
theorem take_next {α : Type} {p : List α} {i : Nat} {s : α} (h : p[i]? = some s) : p.take (i + 1) = p.take i ++ [s] := by
  rw [List.take_add_one, h]; rfl
theorem map_map' {o : Option (List Stp)} {a : List Stp} {s : Stp} : (o.map (s :: ·)).map (a ++ ·) = o.map ((a ++ [s]) ++ ·) := by
  cases o <;> simp
abbrev N_law_turned : List Str := ["_law_program_here", "_law_k", "_law_place_here", "_law_step_now", "_law_at", "_law_inside"]
theorem sc_law_turned : FnScope N_law_turned ["_law_program_here"] (defScope s_law_turned) := ⟨rfl, rfl, rfl, by decide +kernel, rfl, by decide +kernel, by decide +kernel⟩
def spTurned (n : Nat) : SpN := fun vs H Q => ∃ p v, vs = [v] ∧ IsPr H p v ∧ dep0 p < n ∧ cnt p ≤ 1000 ∧ ∀ H' v', Same H H' → OptPr H' (turned p) v' → Q v' H'
section
variable {P : Program} {w : World} {K : PySem.W.Frag} {mg : Str → Option Value} {base : Heap}
theorem walk_rng {n : Nat} : L2.Walk (Itr 0 n) n (fun _ => True) (fun i H x H' => H' = H ∧ x = .int (i : Int)) :=
  walk_range.mono (fun _ h => h) fun i H x H' _ _ y => ⟨y.1, y.2.trans (by show V.int (0 + (i : Int)) = _; rw [Int.zero_add])⟩
/-- p[:i] + x + p[i + 1:] -/
theorem put_read {K : PySem.W.Frag} {a j i : Nat} {σ : L2.St} {H : Hp} {t : Addr} {ws : List V} {tx : TE} {Q : VK} (ha : σ[a]? = some (some (.ref t))) (hj : σ[j]? = some (some (.int (i : Int)))) (ht : H t = some (.tup ws)) (hi : i < ws.length) (hl : ws.length ≤ 2000)
    (hx : ∀ H', Same H H' → ∀ R : VK, (∀ b us H2, Same H' H2 → H2 b = some (.tup us) → us.length ≤ 2000 → (∀ c H3, Same H2 H3 → H3 c = some (.tup (ws.take i ++ us ++ ws.drop (i + 1))) → Q (.ref c) H3) → R (.ref b) H2) → tx σ H' R) :
    tOp (rCatA K) (tOp (rCatA K) (tSl (rSlT K) (tVar a) tNoPart (tPart (tVar j))) tx) (tSl (rSlT K) (tVar a) (tPart (tOp (rI0 fun i j => .int (i + j)) (tVar j) (tC (.int 1)))) tNoPart) σ H Q := by
  refine ⟨_, ha, _, hj, i, rfl, slice_to ht hi fun c H1 s1 h1 => hx H1 s1 _ fun b us H2 s2 h2 hu q => ?_⟩
  refine cat_any (s2 _ _ h1) h2 (by rw [List.length_take]; omega) fun d H3 s3 h3 => ?_
  refine ⟨_, ha, _, hj, _, _, rfl, rfl, _, rfl, ?_⟩
  show rSlT K (.ref t) (some ((i + 1 : Nat) : Int)) none H3 (fun y H2 => rCatA K (.ref d) y H2 Q)
  refine slice_from (k := i + 1) (s3 _ _ (s2 _ _ (s1 _ _ ht))) (by omega) (by omega) fun e H4 s4 h4 => ?_
  refine cat_any (s4 _ _ h3) h4 (by rw [List.length_append, List.length_take, List.length_drop]; omega) fun g H5 s5 h5 => ?_
  exact q g H5 (Same.trans s3 (Same.trans s4 s5)) h5
/-- a step with other programs -/
def withP : Stp → List Stp → List Stp → Stp
  | .ite a _ _, p, q => .ite a p q
  | .inner _ _, p, q => .inner p q
  | .either _ _, p, q => .either p q
  | s, _, _ => s
theorem turnS_eq {s : Stp} {p q : List Stp} (h : parts s = [p, q]) : turnS s = match turned p with
    | some p' => some (withP s p' q)
    | none => (turned q).map (withP s p ·) := by
  cases s <;> simp [parts] at h
  all_goals
    obtain ⟨rfl, rfl⟩ := h
    unfold turnS turned
    rfl
theorem isC_parts {s : Stp} (h : isC s = false) : turnS s = none ∧ parts s = [] := by
  cases s <;> simp [isC, kw] at h <;> exact ⟨by unfold turnS; rfl, rfl⟩
theorem isSt_with {H H' : Hp} {s : Stp} {t c : Addr} {bs : List V} {p q p' q' : List Stp} {t1 t2 u1 u2 : Addr} {us1 us2 : List V} (hI : IsSt H s (.ref t)) (hp : parts s = [p', q']) (ht : H t = some (.tup (.str (wrd s) :: (bs ++ [.ref t1, .ref t2])))) (e : TLe H H')
    (hc : H' c = some (.tup (.str (wrd s) :: (bs ++ [.ref u1, .ref u2])))) (h1 : H' u1 = some (.tup us1) ∧ IsSts H' p us1) (h2 : H' u2 = some (.tup us2) ∧ IsSts H' q us2) : IsSt H' (withP s p q) (.ref c) := by
  cases s with
  | ite a r1 r2 =>
    obtain ⟨va, t1', t2', vs1, vs2, ⟨t', e1, e2⟩, ha, _, _⟩ := hI
    cases e1
    have := tup_tail ht e2
    have hb : bs = [va] := by
      have : bs ++ [V.ref t1, V.ref t2] = [va] ++ [V.ref t1', V.ref t2'] := this
      exact List.append_inj_left' this rfl
    subst hb
    exact ⟨va, u1, u2, us1, us2, ⟨c, rfl, hc⟩, ha.mono e, h1, h2⟩
  | inner r1 r2 =>
    obtain ⟨t1', t2', vs1, vs2, ⟨t', e1, e2⟩, _, _⟩ := hI
    cases e1
    have hb : bs = [] := by
      have : bs ++ [V.ref t1, V.ref t2] = [] ++ [V.ref t1', V.ref t2'] := tup_tail ht e2
      exact List.append_inj_left' this rfl
    subst hb
    exact ⟨u1, u2, us1, us2, ⟨c, rfl, hc⟩, h1, h2⟩
  | either r1 r2 =>
    obtain ⟨t1', t2', vs1, vs2, ⟨t', e1, e2⟩, _, _⟩ := hI
    cases e1
    have hb : bs = [] := by
      have : bs ++ [V.ref t1, V.ref t2] = [] ++ [V.ref t1', V.ref t2'] := tup_tail ht e2
      exact List.append_inj_left' this rfl
    subst hb
    exact ⟨u1, u2, us1, us2, ⟨c, rfl, hc⟩, h1, h2⟩
  | _ => simp [parts] at hp
theorem law_turned_step {n k : Nat} (F : Fd K mg "_law_turned" s_law_turned ["_law_program_here"]) (Cp : Cal P w K mg base k "_law_place" ["_law_step_now"] spPlace) (C : Cal P w K mg base k "_law_turned" ["_law_program_here"] (spTurned n)) (gr : mg "range" = none) (gl : mg "len" = none) :
    Cal P w K mg base (k + 1) "_law_turned" ["_law_program_here"] (spTurned (n + 1)) := by
  refine F.ok sc_law_turned (fun vs H Q ⟨p, v, h, _⟩ => by rw [h]; rfl) fun f cdv A outer s H vs Q E hr h => ?_
  obtain ⟨p, v, rfl, hp, hd, hc, q⟩ := h
  refine ⟨_, pss_cons (ps_for PassesOwn.never rfl (pi_range1 rfl gr (pa_cons (pe_callB call_len_seq (by rfl) gl (by decide +kernel) (pa_cons (pv 0) pa_nil)) pa_nil)) (pg_name (i := 1) sc_law_turned.nd rfl (.inl rfl))
      (pss_cons (ps_if (PW.pt (pw_and (pt_cmpR op_in_seq (pe_ix ix_tup (pe_ix ix_tup (pv 0) (pv 1) (fun _ _ => rfl)) pe_int (fun _ _ => rfl)) (pe_tup (pa_cons pe_str (pa_cons pe_str pa_nil))) rfl) (pw_and1 (pt_cmpR op_lt (pe_op op_add (pv 1) pe_int) (pe_callB call_len_seq (by rfl) gl (by decide +kernel) (pa_cons (pv 0) pa_nil)) (nomark _)))))
        (pss_one (ps_ret (pe_slice sl_tup (pv 0) po_none (po_some (pe_op op_add (pv 1) pe_int))))) pss_nil)
      (pss_cons (ps_set (i := 2) sc_law_turned.nd rfl (.inl rfl) (pe_cal Cp hr rfl (pa_cons (pe_ix ix_tup (pv 0) (pv 1) (fun _ _ => rfl)) pa_nil)))
      (pss_one (ps_if (pt_cmpR op_notN (pv 2) pe_non (nomark _))
        (pss_one (ps_ret (pe_op op_catA (pe_op op_catA (pe_slice sl_tup (pv 0) po_none (po_some (pv 1))) (pv 2)) (pe_slice sl_tup (pv 0) (po_some (pe_op op_add (pv 1) pe_int)) po_none)))) pss_nil)))))
    (pss_cons (ps_for PassesOwn.never rfl (pi_range1 rfl gr (pa_cons (pe_callB call_len_seq (by rfl) gl (by decide +kernel) (pa_cons (pv 0) pa_nil)) pa_nil)) (pg_name (i := 1) sc_law_turned.nd rfl (.inl rfl))
      (pss_cons (ps_set (i := 3) sc_law_turned.nd rfl (.inl rfl) (pe_ix ix_tup (pv 0) (pv 1) (fun _ _ => rfl)))
      (pss_one (ps_if (pt_cmpR op_in_seq (pe_ix ix_tup (pv 3) pe_int (fun _ _ => rfl)) (pe_tup (pa_cons pe_str (pa_cons pe_str (pa_cons pe_str pa_nil)))) rfl)
        (pss_one (ps_for PassesOwn.never rfl (pi_tup (pe_tup (pa_cons (pe_op op_sub (pe_callB call_len_seq (by rfl) gl (by decide +kernel) (pa_cons (pv 3) pa_nil)) pe_int) (pa_cons (pe_op op_sub (pe_callB call_len_seq (by rfl) gl (by decide +kernel) (pa_cons (pv 3) pa_nil)) pe_int) pa_nil)))) (pg_name (i := 4) sc_law_turned.nd rfl (.inl rfl))
          (pss_cons (ps_set (i := 5) sc_law_turned.nd rfl (.inl rfl) (pe_cal C hr rfl (pa_cons (pe_ix ix_tup (pv 3) (pv 4) (fun _ _ => rfl)) pa_nil)))
          (pss_one (ps_if (pt_cmpR op_notN (pv 5) pe_non (nomark _))
            (pss_cons (ps_set (i := 3) sc_law_turned.nd rfl (.inl rfl) (pe_op op_catA (pe_op op_catA (pe_slice sl_tup (pv 3) po_none (po_some (pv 4))) (pe_tup (pa_cons (pv 5) pa_nil))) (pe_slice sl_tup (pv 3) (po_some (pe_op op_add (pv 4) pe_int)) po_none)))
            (pss_one (ps_ret (pe_op op_catA (pe_op op_catA (pe_slice sl_tup (pv 0) po_none (po_some (pv 1))) (pe_tup (pa_cons (pv 3) pa_nil))) (pe_slice sl_tup (pv 0) (po_some (pe_op op_add (pv 1) pe_int)) po_none))))) pss_nil)))))
        pss_nil))))
    (pss_one (ps_ret pe_non))), ?_⟩
  obtain ⟨t, ws, rfl, ht, hs⟩ := hp
  have hlen := hs.length
  have hl1 : ws.length ≤ 1000 := by rw [hlen]; exact Nat.le_trans (len_le_cnt _) hc
  refine ⟨_, rfl, t, ws, rfl, .inr (SqT.of ht), _, rfl, by omega, by omega, for_it (walk_rng (n := ws.length)) (fun i σ H' => ∃ y1 y2, σ = [some (.ref t), y1, y2, none, none, none] ∧ Same H H' ∧ turnA p = (turnA (p.drop i)).map (p.take i ++ ·))
      ⟨none, none, rfl, Same.refl H, by simp⟩ (fun i σ H' _ ⟨_, _, _, sm, _⟩ => trivial) (fun i x σ H1 H2 hi ⟨y1, y2, e1, sm, ho⟩ hY => ?_) (fun σ H' ⟨y1, y2, e1, sm, ho⟩ => ?_)⟩
  · obtain ⟨e2, hx⟩ := hY
    subst e1 e2 hx
    obtain ⟨st, hst, hI⟩ := hs.at (List.getElem?_eq_getElem hi)
    generalize hvi : ws[i] = vi at hI
    have hvi : ws[i]? = some vi := by rw [← hvi]; exact List.getElem?_eq_getElem hi
    obtain ⟨hd1, hc1⟩ := at_step hst
    obtain ⟨ts, as, rfl, hts, hlen⟩ := hI.open
    have hpi := drop_cons hst
    have htn := take_next hst
    refine ⟨_, rfl, _, rfl, t, ws, i, .ref ts, rfl, rfl, SqT.of (sm _ _ ht), atI_nat hvi, ts, _, 0, .str (wrd st), rfl, rfl, SqT.of (sm _ _ hts), atI_nat (j := 0) rfl, by show 2 ≤ sizeLine; decide, fun d nd => ⟨d, _, rfl, .inr (SqT.of upd_same), rfl, rfl, _, rfl, ?_⟩⟩
    have sd := Same.trans sm (same_upd (o := .tup [.str "out", .str "retry"]) nd)
    generalize upd H2 d (.tup [.str "out", .str "retry"]) = H3 at sd
    have i2 : inV (.str (wrd st)) [.str "out", .str "retry"] = stops st := (inV_kw (kw st) [.out, .retry]).trans (stops_kw st)
    rw [show (if false = true then !inV (.str (wrd st)) [.str "out", .str "retry"] else inV (.str (wrd st)) [.str "out", .str "retry"]) = stops st from i2]
    -- behind the first question
    have next : (stops st && !(p.drop (i + 1)).isEmpty) = false → ∀ H3, Same H H3 → tSeq (tAsg (tCal spPlace (tCons (tOp (rIxT K) (tVar 0) (tVar 1)) tNil)) (gName 2)) (tIfS (tTest (tOp (fun x y H Q => y = V.non ∧ Q (V.bl (!decide (x = V.non))) H) (tVar 2) (tC V.non))) (tRet (tOp (rCatA K) (tOp (rCatA K) (tSl (rSlT K) (tVar 0) tNoPart (tPart (tVar 1))) (tVar 2)) (tSl (rSlT K) (tVar 0) (tPart (tOp (rI0 fun i j => .int (i + j)) (tVar 1) (tC (.int 1)))) tNoPart))) tNext)
        { nx := fun σ H' => ∃ y1 y2, σ = [some (.ref t), y1, y2, none, none, none] ∧ Same H H' ∧ turnA p = (turnA (p.drop (i + 1))).map (p.take (i + 1) ++ ·), rt := Q, bk := fun _ _ => False, ct := fun _ _ => False } [some (.ref t), some (.int (i : Int)), y2, none, none, none] H3 := fun hc0 H3 s3 => by
      refine ⟨_, rfl, _, rfl, t, ws, i, .ref ts, rfl, rfl, SqT.of (s3 _ _ ht), atI_nat hvi, st, _, rfl, hI.mono (Same.tle s3), by omega, fun H4 v' s4 hv' => ?_⟩
      have s04 := Same.trans s3 s4
      have hA : turnA p = (match place st with | some q => some (q ++ p.drop (i + 1)) | none => (turnA (p.drop (i + 1))).map (st :: ·)).map (p.take i ++ ·) := by
        rw [ho, hpi]
        conv => lhs; unfold turnA
        rw [hc0]
        rfl
      cases hpl : place st with
      | none =>
        rw [hpl] at hA hv'
        cases (show v' = .non from hv')
        refine ⟨_, rfl, rfl, _, rfl, ?_⟩
        refine ⟨_, _, rfl, s04, ?_⟩
        rw [hA, htn]
        exact map_map'
      | some g =>
        rw [hpl] at hA hv'
        obtain ⟨b, us, rfl, hb, hus⟩ := hv'
        refine ⟨_, rfl, rfl, _, rfl, ?_⟩
        have hul : us.length ≤ 2000 := by
          rw [hus.length]
          refine Nat.le_trans (len_le_cnt _) ?_
          have := (place_turn hpl).2
          have : cnt [st] = cntS st := by simp [cnt]
          omega
        refine put_read (i := i) rfl rfl (s04 _ _ ht) hi (by omega) fun H5 s5 R r => ⟨_, rfl, r b us H5 (Same.refl H5) (s5 _ _ hb) hul fun c H6 s6 h6 => ?_⟩
        have s56 := Same.trans s5 s6
        refine q H6 _ (Same.trans s04 s56) ?_
        have : turned p = some (p.take i ++ (g ++ p.drop (i + 1))) := by
          unfold turned
          rw [hA]
          rfl
        rw [this]
        refine ⟨c, _, rfl, h6, ?_⟩
        rw [← List.append_assoc]
        exact (((hs.take i).mono (Same.tle (Same.trans s04 s56))).append (hus.mono (Same.tle s56))).append ((hs.drop (i + 1)).mono (Same.tle (Same.trans s04 s56)))
    have hdr : (p.drop (i + 1)).isEmpty = decide (ws.length ≤ i + 1) := by
      rw [hs.length]
      by_cases c : p.length ≤ i + 1
      · rw [List.drop_of_length_le c, decide_eq_true c]; rfl
      · rw [decide_eq_false c]
        cases hq : p.drop (i + 1) with
        | nil => exact absurd (List.drop_eq_nil_iff.mp hq) c
        | cons x y => rfl
    refine ite2 (fun c => ?_) (fun c => ?_)
    · refine ⟨_, rfl, _, _, rfl, rfl, _, rfl, t, ws, rfl, .inr (SqT.of (sd _ _ ht)), _, _, rfl, rfl, _, rfl, ?_⟩
      refine ite2 (fun c2 => ?_) (fun c2 => ?_)
      · have c2 : i + 1 < ws.length := by have := of_decide_eq_true c2; omega
        refine ⟨_, rfl, _, rfl, _, _, rfl, rfl, _, rfl, ?_⟩
        refine slice_to (k := i + 1) (sd _ _ ht) c2 fun b H4 s4 hb => ?_
        refine q H4 _ (Same.trans sd s4) ?_
        have hA : turnA p = some (p.take (i + 1)) := by
          rw [ho, hpi]
          conv => lhs; unfold turnA
          rw [hdr, c, decide_eq_false (by omega)]
          rw [htn]
          rfl
        have : turned p = some (p.take (i + 1)) := by unfold turned; rw [hA]; rfl
        rw [this]
        exact ⟨b, _, rfl, hb, (hs.take (i + 1)).mono (Same.tle (Same.trans sd s4))⟩
      · refine next ?_ _ sd
        rw [hdr, decide_eq_true (by
          have : ¬ ((i : Int) + 1 < (ws.length : Int)) := fun z => c2 (decide_eq_true z)
          omega)]
        simp
    · refine next ?_ _ sd
      have : stops st = false := by simpa using c
      rw [this]
      rfl
  · subst e1
    have hA : turnA p = none := by
      rw [ho, hlen, List.drop_length]
      rfl
    have hT : turned p = turnB p := by unfold turned; rw [hA]; rfl
    refine ⟨_, rfl, t, ws, rfl, .inr (SqT.of (sm _ _ ht)), _, rfl, by omega, by omega, for_it (walk_rng (n := ws.length)) (fun i σ H' => ∃ y1 y2 y3 y4 y5, σ = [some (.ref t), y1, y2, y3, y4, y5] ∧ Same H H' ∧ turnB p = (turnB (p.drop i)).map (p.take i ++ ·))
      ⟨y1, y2, none, none, none, rfl, sm, by simp⟩ (fun i σ H' _ ⟨_, _, _, _, _, _, sm, _⟩ => trivial) (fun i x σ H1 H2 hi ⟨y1, y2, y3, y4, y5, e1, sm, ho⟩ hY => ?_) (fun σ H' ⟨y1, y2, y3, y4, y5, e1, sm, ho⟩ => ?_)⟩
    · obtain ⟨e2, hx⟩ := hY
      subst e1 e2 hx
      obtain ⟨st, hst, hI⟩ := hs.at (List.getElem?_eq_getElem hi)
      generalize hvi : ws[i] = vi at hI
      have hvi : ws[i]? = some vi := by rw [← hvi]; exact List.getElem?_eq_getElem hi
      obtain ⟨hd1, hc1⟩ := at_step hst
      obtain ⟨ts, as, rfl, hts, hla⟩ := hI.open
      have hpi := drop_cons hst
      have htn := take_next hst
      have hB : turnB p = (match turnS st with | some s' => some (s' :: p.drop (i + 1)) | none => (turnB (p.drop (i + 1))).map (st :: ·)).map (p.take i ++ ·) := by
        rw [ho, hpi]
        conv => lhs; unfold turnB
        all_goals rfl
      have hBn : turnS st = none → turnB p = (turnB (p.drop (i + 1))).map (p.take (i + 1) ++ ·) := fun e => by
        rw [hB, e, htn] <;> exact map_map'
      refine ⟨_, rfl, _, rfl, t, ws, i, .ref ts, rfl, rfl, SqT.of (sm _ _ ht), atI_nat hvi, ?_⟩
      refine ⟨_, rfl, ts, _, 0, .str (wrd st), rfl, rfl, SqT.of (sm _ _ hts), atI_nat (j := 0) rfl, by show 3 ≤ sizeLine; decide, fun d nd => ⟨d, _, rfl, .inr (SqT.of upd_same), rfl, rfl, _, rfl, ?_⟩⟩
      have sd := Same.trans sm (same_upd (o := .tup [.str "if", .str "inner", .str "either"]) nd)
      generalize upd H2 d (.tup [.str "if", .str "inner", .str "either"]) = H3 at sd
      have i3 : inV (.str (wrd st)) [.str "if", .str "inner", .str "either"] = isC st := inV_kw (kw st) [.ite, .inner, .either]
      rw [show (if false = true then !inV (.str (wrd st)) [.str "if", .str "inner", .str "either"] else inV (.str (wrd st)) [.str "if", .str "inner", .str "either"]) = isC st from i3]
      refine ite2 (fun c => ?_) (fun c => ?_)
      · obtain ⟨p1, p2, t1, t2, vs1, vs2, bs, rfl, h1, h2, hpt, hbl⟩ := comp_open hI hts c
        have hdp : dep0 p1 < n ∧ dep0 p2 < n ∧ cnt p1 ≤ 1000 ∧ cnt p2 ≤ 1000 := by
          cases st <;> simp [parts] at hpt <;> obtain ⟨rfl, rfl⟩ := hpt <;> simp only [depS, cntS] at hd1 hc1 <;> omega
        have htS := turnS_eq hpt
        have hbl1 : bs.length ≤ 1 := by rw [hbl]; split <;> omega
        have htl : (V.str (wrd st) :: (bs ++ [V.ref t1, V.ref t2])).length = bs.length + 3 := by simp
        refine ⟨_, rfl, ts, _, rfl, .inr (SqT.of (sd _ _ hts)), _, _, rfl, rfl, _, rfl, ts, _, rfl, .inr (SqT.of (sd _ _ hts)), _, _, rfl, rfl, by show 2 ≤ sizeLine; decide, fun d2 nd2 => ?_⟩
        rw [htl, show [(fun i j => V.int (i - j)) ((bs.length + 3 : Nat) : Int) 2, (fun i j => V.int (i - j)) ((bs.length + 3 : Nat) : Int) 1] = [V.int ((bs.length + 1 : Nat) : Int), V.int ((bs.length + 2 : Nat) : Int)] by
          show [V.int (((bs.length + 3 : Nat) : Int) - 2), V.int (((bs.length + 3 : Nat) : Int) - 1)] = _
          rw [show ((bs.length + 3 : Nat) : Int) - 2 = ((bs.length + 1 : Nat) : Int) by omega, show ((bs.length + 3 : Nat) : Int) - 1 = ((bs.length + 2 : Nat) : Int) by omega]]
        have sd2 := Same.trans sd (same_upd (o := .tup [.int ((bs.length + 1 : Nat) : Int), .int ((bs.length + 2 : Nat) : Int)]) nd2)
        have hd2 : upd H3 d2 (.tup [.int ((bs.length + 1 : Nat) : Int), .int ((bs.length + 2 : Nat) : Int)]) d2 = some (.tup [.int ((bs.length + 1 : Nat) : Int), .int ((bs.length + 2 : Nat) : Int)]) := upd_same
        generalize upd H3 d2 (.tup [.int ((bs.length + 1 : Nat) : Int), .int ((bs.length + 2 : Nat) : Int)]) = H4 at sd2 hd2
        refine ⟨d2, rfl, ⟨_, SqT.of hd2⟩, for_it (walk_tup (xs := [.int ((bs.length + 1 : Nat) : Int), .int ((bs.length + 2 : Nat) : Int)])) (fun j σ H' => ∃ y4 y5, σ = [some (.ref t), some (.int (i : Int)), y2, some (.ref ts), y4, y5] ∧ Same H4 H' ∧ (1 ≤ j → turned p1 = none) ∧ (2 ≤ j → turned p2 = none))
          ⟨y4, y5, rfl, Same.refl H4, fun z => by omega, fun z => by omega⟩ (fun j σ H' _ ⟨_, _, _, s1, _⟩ => Same.sqT s1 (SqT.of hd2)) (fun j x σ H5 H6 hj ⟨y4, y5, e1, s1, ho1, ho2⟩ hY => ?_) (fun σ H' ⟨y4, y5, e1, s1, ho1, ho2⟩ => ?_)⟩
        · obtain ⟨e2, hx⟩ := hY
          subst e1 e2
          have s06 := Same.trans sd2 s1
          -- one of the two programs
          have turn : ∀ (at' : Nat) (r : List Stp) (tr : Addr) (vr : List V), at' < bs.length + 3 → x = .int (at' : Int) → (V.str (wrd st) :: (bs ++ [V.ref t1, V.ref t2]))[at']? = some (.ref tr) → (H tr = some (.tup vr) ∧ IsSts H r vr) → dep0 r < n → cnt r ≤ 1000 →
              (∀ q', turned r = some q' → ∃ s', turnS st = some s' ∧ ∀ H' c u us, TLe H H' → H' u = some (.tup us) → IsSts H' q' us → H' c = some (.tup ((V.str (wrd st) :: (bs ++ [V.ref t1, V.ref t2])).take at' ++ [.ref u] ++ (V.str (wrd st) :: (bs ++ [V.ref t1, V.ref t2])).drop (at' + 1))) → IsSt H' s' (.ref c)) →
              (turned r = none → (1 ≤ j + 1 → turned p1 = none) ∧ (2 ≤ j + 1 → turned p2 = none)) → gName 4 x [some (.ref t), some (.int (i : Int)), y2, some (.ref ts), y4, y5] H6 fun σ2 H2 => tSeq (tAsg (tCal (spTurned n) (tCons (tOp (rIxT K) (tVar 3) (tVar 4)) tNil)) (gName 5)) (tIfS (tTest (tOp (fun x y H Q => y = V.non ∧ Q (V.bl (!decide (x = V.non))) H) (tVar 5) (tC V.non)))
                (tSeq (tAsg (tOp (rCatA K) (tOp (rCatA K) (tSl (rSlT K) (tVar 3) tNoPart (tPart (tVar 4))) (tTup (tCons (tVar 5) tNil))) (tSl (rSlT K) (tVar 3) (tPart (tOp (rI0 fun i j => .int (i + j)) (tVar 4) (tC (.int 1)))) tNoPart)) (gName 3))
                  (tRet (tOp (rCatA K) (tOp (rCatA K) (tSl (rSlT K) (tVar 0) tNoPart (tPart (tVar 1))) (tTup (tCons (tVar 3) tNil))) (tSl (rSlT K) (tVar 0) (tPart (tOp (rI0 fun i j => .int (i + j)) (tVar 1) (tC (.int 1)))) tNoPart)))) tNext)
                { nx := fun σ H' => ∃ y4 y5, σ = [some (.ref t), some (.int (i : Int)), y2, some (.ref ts), y4, y5] ∧ Same H4 H' ∧ (1 ≤ j + 1 → turned p1 = none) ∧ (2 ≤ j + 1 → turned p2 = none), rt := Q, bk := fun _ _ => False, ct := fun _ _ => False } σ2 H2 := fun at' r tr vr hat hx hatv hr1 hdr hcr hsome hnone => by
            subst hx
            refine ⟨_, rfl, _, rfl, ts, _, (at' : Int), .ref tr, rfl, rfl, SqT.of (s06 _ _ hts), atI_nat hatv, r, _, rfl, (isPr_mk hr1).mono (Same.tle s06), hdr, hcr, fun H7 v' s7 hv' => ?_⟩
            have s07 := Same.trans s06 s7
            cases htr : turned r with
            | none =>
              rw [htr] at hv'
              cases (show v' = .non from hv')
              refine ⟨_, rfl, rfl, _, rfl, ?_⟩
              exact ⟨_, _, rfl, Same.trans s1 s7, (hnone htr).1, (hnone htr).2⟩
            | some q' =>
              rw [htr] at hv'
              obtain ⟨u, us, rfl, hu, hus⟩ := hv'
              obtain ⟨s', hs', hmk⟩ := hsome q' htr
              refine ⟨_, rfl, rfl, _, rfl, ?_⟩
              refine put_read (i := at') rfl rfl (s07 _ _ hts) (by rw [htl]; exact hat) (by rw [htl]; omega) fun H8 s8 R r8 => ⟨_, rfl, by show 1 ≤ sizeLine; decide, fun b nb => r8 b [.ref u] _ (same_upd nb) upd_same (by show 1 ≤ 2000; omega) fun c H9 s9 h9 => ?_⟩
              have s08 := Same.trans s8 (Same.trans (same_upd nb) s9)
              have s09 := Same.trans s07 s08
              have hI' := hmk H9 c u us (Same.tle s09) (s08 _ _ hu) (hus.mono (Same.tle s08)) h9
              refine put_read (i := i) rfl rfl (s09 _ _ ht) hi (by omega) fun H10 s10 R r10 => ⟨_, rfl, by show 1 ≤ sizeLine; decide, fun b2 nb2 => r10 b2 [.ref c] _ (same_upd nb2) upd_same (by show 1 ≤ 2000; omega) fun c2 H11 s11 h11 => ?_⟩
              have s9b := Same.trans s10 (Same.trans (same_upd nb2) s11)
              refine q H11 _ (Same.trans s09 s9b) ?_
              have : turned p = some (p.take i ++ (s' :: p.drop (i + 1))) := by
                rw [hT, hB, hs']
                rfl
              rw [this]
              have tl := Same.tle (Same.trans s09 s9b)
              refine ⟨c2, _, rfl, h11, ?_⟩
              rw [show p.take i ++ s' :: p.drop (i + 1) = p.take i ++ [s'] ++ p.drop (i + 1) by simp]
              exact (((hs.take i).mono tl).append (show IsSts H11 [s'] [.ref c] from ⟨_, _, rfl, hI'.mono (Same.tle s9b), rfl⟩)).append ((hs.drop (i + 1)).mono tl)
          have hj2 : j < 2 := hj
          rcases (show j = 0 ∨ j = 1 by omega) with e0 | e0
          · subst e0
            refine turn (bs.length + 1) p1 t1 vs1 (by omega) (Option.some.inj hx).symm (by simp) h1 hdp.1 hdp.2.2.1 (fun q' e => ⟨withP st q' p2, by rw [htS, e], fun H' c u us tl hu hus hc => ?_⟩) fun e => ⟨fun _ => e, fun z => by omega⟩
            refine isSt_with hI hpt hts tl (u1 := u) (u2 := t2) ?_ ⟨hu, hus⟩ ⟨tl _ _ h2.1, h2.2.mono tl⟩
            rw [hc]
            simp
          · subst e0
            refine turn (bs.length + 2) p2 t2 vs2 (by omega) (Option.some.inj hx).symm (by simp) h2 hdp.2.1 hdp.2.2.2 (fun q' e => ⟨withP st p1 q', by rw [htS, ho1 (by omega), e]; rfl, fun H' c u us tl hu hus hc => ?_⟩) fun e => ⟨fun _ => ho1 (by omega), fun _ => e⟩
            refine isSt_with hI hpt hts tl (u1 := t1) (u2 := u) ?_ ⟨tl _ _ h1.1, h1.2.mono tl⟩ ⟨hu, hus⟩
            rw [hc]
            simp
            rw [show bs ++ [V.ref t1, V.ref t2] = (bs ++ [V.ref t1]) ++ [V.ref t2] by simp, List.take_left' (by simp)]
            simp
        · have e1' : turnS st = none := by
            rw [htS, ho1 (by show 1 ≤ 2; omega), ho2 (Nat.le_refl 2)]
            rfl
          exact ⟨_, _, _, _, _, e1, Same.trans sd2 s1, hBn e1'⟩
      · exact ⟨_, _, _, _, _, rfl, sd, hBn (isC_parts (by simpa using c)).1⟩
    · subst e1
      refine q H' _ sm ?_
      rw [hT, ho, hlen, List.drop_length]
      rfl
/-- the turn, by the depth -/
theorem ok_law_turned (Fl : Fd K mg "_law_own" s_law_own ["_law_program_here", "_law_word", "_law_around"]) (Fp : Fd K mg "_law_place" s_law_place ["_law_step_now"]) (F : Fd K mg "_law_turned" s_law_turned ["_law_program_here"]) (g1 : mg "list" = none) (gr : mg "range" = none) (gl : mg "len" = none) :
    ∀ n, Cal P w K mg base (n + 2) "_law_turned" ["_law_program_here"] (spTurned n)
  | 0 => F.none fun vs H Q ⟨p, v, _, _, h, _⟩ => absurd h (Nat.not_lt_zero _)
  | n + 1 => law_turned_step F ((ok_law_place Fp (ok_law_own (k := 0) Fl g1)).mono (by omega)) (ok_law_turned Fl Fp F g1 gr gl n) gr gl
end
end Pk
-- ## PkLawD
set_option Elab.async false
set_option linter.all false
set_option maxRecDepth 100000
set_option maxHeartbeats 4000000
namespace Pk
open PySem PySem.Spec PyProof.Rows L2
/-! ### _law_due -/
abbrev N_law_due : List Str := ["_law_program_here", "_law_after"]
theorem sc_law_due : FnScope N_law_due ["_law_program_here"] (defScope s_law_due) := ⟨rfl, rfl, rfl, by decide +kernel, rfl, by decide +kernel, by decide +kernel⟩
section
variable {P : Program} {w : World} {K : PySem.W.Frag} {mg : Str → Option Value} {base : Heap}
theorem ok_law_due {n k : Nat} (F : Fd K mg "_law_due" s_law_due ["_law_program_here"]) (C : Cal P w K mg base k "_law_turned" ["_law_program_here"] (spTurned n)) :
    Cal P w K mg base (k + 1) "_law_due" ["_law_program_here"] (spPl n) := by
  refine F.ok sc_law_due (fun vs H Q ⟨p, v, h, _⟩ => by rw [h]; rfl) fun f cdv A outer s H vs Q E hr h => ?_
  obtain ⟨p, v, rfl, hp, hd, hc, q⟩ := h
  refine ⟨_, pss_cons (ps_set (i := 1) sc_law_due.nd rfl (.inl rfl) (pe_cal C hr rfl (pa_cons (pv 0) pa_nil)))
    (pss_cons (ps_while PassesOwn.never (pt_cmpR op_notN (pv 1) pe_non (nomark _))
      (pss_cons (ps_set (i := 0) sc_law_due.nd rfl (.inl rfl) (pv 1))
      (pss_one (ps_set (i := 1) sc_law_due.nd rfl (.inl rfl) (pe_cal C hr rfl (pa_cons (pv 0) pa_nil))))))
    (pss_one (ps_ret (pv 0)))), ?_⟩
  refine ⟨_, rfl, p, v, rfl, hp, hd, hc, fun H1 va s1 h1 => ?_⟩
  refine ⟨fun m σ H' => ∃ g vg va, m = cnt g ∧ σ = [some vg, some va] ∧ Same H H' ∧ IsPr H' g vg ∧ OptPr H' (turned g) va ∧ pl g = pl p ∧ dep0 g < n ∧ cnt g ≤ 1000,
    ⟨cnt p, p, v, va, rfl, rfl, s1, hp.mono (Same.tle s1), h1, rfl, hd, hc⟩, ?_⟩
  rintro m σ H2 ⟨g, vg, va, rfl, rfl, s2, hg, ho, e, hd2, hc2⟩
  refine ⟨_, rfl, rfl, _, rfl, ?_⟩
  cases ht : turned g with
  | none =>
    rw [ht] at ho
    cases (show va = .non from ho)
    refine ⟨_, rfl, q H2 _ s2 ?_⟩
    rw [← e, turned_none ht]
    exact hg
  | some g' =>
    rw [ht] at ho
    obtain ⟨kp, lt⟩ := turned_turn ht
    have hg' : IsPr H2 g' va := ho
    obtain ⟨b, us, rfl, hb, hus⟩ := ho
    refine ⟨fun σ' H' => ∃ g2 vg va, cnt g2 < cnt g ∧ σ' = [some vg, some va] ∧ Same H H' ∧ IsPr H' g2 vg ∧ OptPr H' (turned g2) va ∧ pl g2 = pl p ∧ dep0 g2 < n ∧ cnt g2 ≤ 1000,
      fun σ' H' ⟨g2, vg, va, h1, h2, h3, h4, h5, h6, h7, h8⟩ => ⟨cnt g2, h1, g2, vg, va, rfl, h2, h3, h4, h5, h6, h7, h8⟩, ?_⟩
    have hd3 := kp.dep
    refine ⟨_, rfl, _, rfl, g', _, rfl, hg', by omega, by omega, fun H3 va3 s3 h3 => ?_⟩
    exact ⟨g', _, _, lt, rfl, Same.trans s2 s3, hg'.mono (Same.tle s3), h3, kp.pl.trans e, by omega, by omega⟩
end

/-! ### _law_count -/
def sumC : List (List Stp × Nat) → Nat
  | [] => 0
  | x :: r => cnt x.1 + sumC r
def maxD : List (List Stp × Nat) → Nat
  | [] => 0
  | x :: r => max (x.2 + dep0 x.1) (maxD r)
def mz : List (List Stp × Nat) → Nat
  | [] => 0
  | x :: r => 1 + 2 * cnt x.1 + mz r
def kids (d : Nat) (s : Stp) : List (List Stp × Nat) := (parts s).map (·, d + 1)
def kidsP (d : Nat) (g : List Stp) : List (List Stp × Nat) := g.flatMap (kids d)
theorem sumC_append (a b : List (List Stp × Nat)) : sumC (a ++ b) = sumC a + sumC b := by
  induction a with
  | nil => simp [sumC]
  | cons x r ih => simp only [List.cons_append, sumC, ih]; omega
theorem maxD_append (a b : List (List Stp × Nat)) : maxD (a ++ b) = max (maxD a) (maxD b) := by
  induction a with
  | nil => simp [maxD]
  | cons x r ih => simp only [List.cons_append, maxD, ih]; omega
theorem mz_append (a b : List (List Stp × Nat)) : mz (a ++ b) = mz a + mz b := by
  induction a with
  | nil => simp [mz]
  | cons x r ih => simp only [List.cons_append, mz, ih]; omega
theorem kids_S (d : Nat) (s : Stp) : sumC (kids d s) + 1 = cntS s ∧ max d (maxD (kids d s)) = d + depS s ∧ mz (kids d s) ≤ 2 * cntS s := by
  cases s <;> first | (simp [kids, parts, sumC, maxD, mz, cntS, depS]; done) | (simp only [kids, parts, List.map_cons, List.map_nil, sumC, maxD, mz, cntS, depS]; omega)
theorem kids_P (d : Nat) (g : List Stp) : sumC (kidsP d g) + g.length = cnt g ∧ max d (maxD (kidsP d g)) = d + dep0 g ∧ mz (kidsP d g) ≤ 2 * cnt g := by
  induction g with
  | nil => simp [kidsP, sumC, maxD, mz, cnt, dep0]
  | cons s r ih =>
    obtain ⟨a, b, c⟩ := kids_S d s
    obtain ⟨a', b', c'⟩ := ih
    have e : kidsP d (s :: r) = kids d s ++ kidsP d r := rfl
    rw [e, sumC_append, maxD_append, mz_append]
    simp only [List.length_cons, cnt, dep0]
    omega
def IsTs (H : Hp) : List (List Stp × Nat) → List V → Prop
  | [], vs => vs = []
  | x :: r, vs => ∃ v w vr, vs = v :: vr ∧ Tu H v [w, .int (x.2 : Int)] ∧ IsPr H x.1 w ∧ IsTs H r vr
theorem IsTs.mono {H H' : Hp} (e : TLe H H') : ∀ {L : List (List Stp × Nat)} {vs : List V}, IsTs H L vs → IsTs H' L vs
  | [], _, h => h
  | x :: r, _, ⟨v, w, vr, h, a, b, c⟩ => ⟨v, w, vr, h, a.mono e, b.mono e, IsTs.mono e c⟩
theorem IsTs.append {H : Hp} : ∀ {L M : List (List Stp × Nat)} {vs ws : List V}, IsTs H L vs → IsTs H M ws → IsTs H (L ++ M) (vs ++ ws)
  | [], _, _, _, h, k => by rw [show _ = [] from h]; exact k
  | x :: r, _, _, _, ⟨v, w, vr, h, a, b, c⟩, k => ⟨v, w, vr ++ _, by rw [h]; rfl, a, b, IsTs.append c k⟩
theorem IsTs.length {H : Hp} : ∀ {L : List (List Stp × Nat)} {vs : List V}, IsTs H L vs → vs.length = L.length
  | [], _, h => by rw [show _ = [] from h]; rfl
  | x :: r, _, ⟨v, w, vr, h, _, _, c⟩ => by rw [h, List.length_cons, List.length_cons, IsTs.length c]
theorem IsTs.snoc {H : Hp} : ∀ {L : List (List Stp × Nat)} {vs : List V}, IsTs H L vs → vs ≠ [] → ∃ L' x us v w, L = L' ++ [x] ∧ vs = us ++ [v] ∧ IsTs H L' us ∧ Tu H v [w, .int (x.2 : Int)] ∧ IsPr H x.1 w
  | [], _, h, hn => absurd h hn
  | x :: [], _, ⟨v, w, vr, h, a, b, c⟩, _ => by
    rw [show vr = [] from c] at h
    exact ⟨[], x, [], v, w, rfl, h, rfl, a, b⟩
  | x :: y :: r, _, ⟨v, w, vr, h, a, b, c⟩, _ => by
    obtain ⟨L', z, us, v', w', e1, e2, h1, h2, h3⟩ := IsTs.snoc (L := y :: r) c (by obtain ⟨_, _, _, e, _⟩ := c; rw [e]; simp)
    exact ⟨x :: L', z, v :: us, v', w', by rw [e1]; rfl, by rw [h, e2]; rfl, ⟨v, w, us, rfl, a, b, h1⟩, h2, h3⟩
theorem len_mz (L : List (List Stp × Nat)) : L.length ≤ mz L := by
  induction L with
  | nil => simp [mz]
  | cons x r ih => simp only [List.length_cons, mz]; omega
theorem kids_len (d : Nat) (s : Stp) : (kids d s).length ≤ 2 := by cases s <;> simp [kids, parts]
abbrev N_law_count : List Str := ["_law_program_here", "_law_many", "_law_depths", "_law_rest", "_law_here", "_law_at", "_law_step_now", "_law_part"]
theorem sc_law_count : FnScope N_law_count ["_law_program_here"] (defScope s_law_count) := ⟨rfl, rfl, rfl, by decide +kernel, rfl, by decide +kernel, by decide +kernel⟩
def spCount : SpN := fun vs H Q => ∃ p v, vs = [v] ∧ IsPr H p v ∧ cnt p ≤ 1000 ∧ ∀ H' t, Same H H' → H' t = some (.tup [.int (cnt p : Int), .int (dep p : Int)]) → Q (.ref t) H'
section
variable {P : Program} {w : World} {K : PySem.W.Frag} {mg : Str → Option Value} {base : Heap}
theorem ok_law_count {k : Nat} (F : Fd K mg "_law_count" s_law_count ["_law_program_here"]) (gl : mg "len" = none) (gm : mg "max" = none) :
    Cal P w K mg base (k + 1) "_law_count" ["_law_program_here"] spCount := by
  refine F.ok sc_law_count (fun vs H Q ⟨p, v, h, _⟩ => by rw [h]; rfl) fun f cdv A outer s H vs Q E hr h => ?_
  obtain ⟨p, v, rfl, hp, hc, q⟩ := h
  refine ⟨_, pss_cons (ps_par3 (i := 1) (j := 2) (l := 3) rfl sc_law_count.nd rfl rfl rfl (by decide) (by decide) (by decide) rfl rfl rfl
      (pa_cons pe_int (pa_cons pe_int (pa_cons (pe_lst (pa_cons (pe_tup (pa_cons (pv 0) (pa_cons pe_int pa_nil))) pa_nil)) pa_nil))) (by rfl))
    (pss_cons (ps_while PassesOwn.never (pt_cmpR (op_ne0L hr.units0) (pv 3) (pe_lst pa_nil) (nomark _))
      (pss_cons (ps_asg (pe_bm0 PySem.F.plainAttrs_list PySem.F.slot_list_pop PySem.F.type_list_pop mt_pop (pv 3)) (pg_tup rfl (pgs_cons (pg_name (i := 4) sc_law_count.nd rfl (.inl rfl)) (pgs_cons (pg_name (i := 5) sc_law_count.nd rfl (.inr rfl)) pgs_nil))))
      (pss_cons (ps_par (i := 1) (j := 2) (by rfl) sc_law_count.nd rfl rfl (by decide) rfl rfl (pa_cons (pe_op op_add (pv 1) (pe_callB call_len_seq (by rfl) gl (by decide +kernel) (pa_cons (pv 4) pa_nil))) (pa_cons (pe_callB (call_max2 rfl) (by rfl) gm (by decide +kernel) (pa_cons (pv 2) (pa_cons (pv 5) pa_nil))) pa_nil)) (by rfl))
      (pss_one (ps_for PassesOwn.never rfl (pi_tup (pv 4)) (pg_name (i := 6) sc_law_count.nd rfl (.inl rfl))
        (pss_one (ps_if (pt_cmpR op_in_seq (pe_ix ix_tup (pv 6) pe_int (fun _ _ => rfl)) (pe_tup (pa_cons pe_str (pa_cons pe_str (pa_cons pe_str pa_nil)))) rfl)
          (pss_one (ps_expr (pe_bm PySem.F.plainAttrs_list PySem.F.slot_list_extend PySem.F.type_list_extend mt_extend (pv 3)
            (pa_cons (pe_lc (own := [("_law_part", 7)]) (g := gName 7) (tt := tYes) rfl sc_law_count.nd (pi_tup (pe_slice sl_tup (pv 6) (po_some (pe_op op_sub (pe_callB call_len_seq (by rfl) gl (by decide +kernel) (pa_cons (pv 6) pa_nil)) pe_int)) po_none)) (blkOk_by (N := N_law_count) (sc := defScope s_law_count) (by decide +kernel))
              (fun _ _ _ _ _ => pg_name (i := 7) sc_law_count.nd rfl (.inl rfl)) (fun _ _ _ _ _ => pts_nil) (fun _ _ _ _ _ => pe_tup (pa_cons (pv 7) (pa_cons (pe_op op_add (pv 5) pe_int) pa_nil)))) pa_nil)))) pss_nil)))))))
    (pss_one (ps_ret (pe_tup (pa_cons (pv 1) (pa_cons (pv 2) pa_nil)))))), ?_⟩
  refine ⟨_, rfl, by show 2 ≤ sizeLine; decide, fun a na => ⟨by show 1 ≤ sizeLine; decide, fun r nr => ⟨_, _, _, rfl, ?_⟩⟩⟩
  have sa := same_upd (o := .tup [v, .int 1]) na
  have ha : upd H a (.tup [v, .int 1]) a = some (.tup [v, .int 1]) := upd_same
  have nr0 : H r = none := by
    cases e : H r with
    | none => rfl
    | some o => rw [sa _ _ e] at nr; cases nr
  generalize upd H a (.tup [v, .int 1]) = H1 at sa ha nr
  have sr := same_upd (o := .lst [.ref a]) nr
  refine ⟨fun m σ H' => ∃ (mn dp : Nat) (L : List (List Stp × Nat)), ∃ us y4 y5 y6 y7, m = mz L ∧ σ = [some v, some (.int (mn : Int)), some (.int (dp : Int)), some (.ref r), y4, y5, y6, y7] ∧ Same H H' ∧ H' r = some (.lst us) ∧ IsTs H' L us ∧ mn + sumC L = cnt p ∧ max dp (maxD L) = dep p ∧ mz L ≤ 2001,
    ⟨mz [(p, 1)], 0, 1, [(p, 1)], _, none, none, none, none, rfl, rfl, Same.trans sa sr, upd_same, ⟨.ref a, v, [], rfl, ⟨a, rfl, sr _ _ ha⟩, hp.mono (Same.tle (Same.trans sa sr)), rfl⟩, by simp [sumC], by simp only [maxD, dep]; omega, by simp only [mz]; omega⟩, ?_⟩
  rintro m σ H2 ⟨mn, dp, L, us, y4, y5, y6, y7, rfl, rfl, s2, hr2, hL, eC, eD, eM⟩
  refine ⟨_, rfl, Nat.zero_le _, fun c nc => ⟨r, c, us, rfl, rfl, SqL.of (same_upd nc _ _ hr2), SqL.of upd_same, _, rfl, ?_⟩⟩
  have sc := same_upd (o := .lst []) nc
  have s3 := Same.trans s2 sc
  have hr3 := sc _ _ hr2
  have hL3 := hL.mono (Same.tle sc)
  generalize upd H2 c (.lst []) = H3 at sc s3 hr3 hL3
  by_cases hn : us = []
  · subst hn
    have : L = [] := List.length_eq_zero_iff.mp hL.length.symm
    subst this
    refine ⟨_, rfl, _, rfl, by show 2 ≤ sizeLine; decide, fun t nt => q _ t (Same.trans s3 (same_upd nt)) ?_⟩
    rw [upd_same]
    simp only [sumC, maxD] at eC eD
    rw [show cnt p = mn by omega, show dep p = dp by omega]
  · rw [show (!us.isEmpty) = true by cases us <;> simp at hn ⊢]
    obtain ⟨L', ⟨g, d⟩, us', v', w', rfl, rfl, hL', ⟨tv, rfl, htv⟩, hg⟩ := hL3.snoc hn
    refine ⟨fun σ' H' => ∃ m', m' < mz (L' ++ [(g, d)]) ∧ ∃ (mn dp : Nat) (L : List (List Stp × Nat)), ∃ us y4 y5 y6 y7, m' = mz L ∧ σ' = [some v, some (.int (mn : Int)), some (.int (dp : Int)), some (.ref r), y4, y5, y6, y7] ∧ Same H H' ∧ H' r = some (.lst us) ∧ IsTs H' L us ∧ mn + sumC L = cnt p ∧ max dp (maxD L) = dep p ∧ mz L ≤ 2001,
      fun σ' H' ⟨m', h1, h2⟩ => ⟨m', h1, h2⟩, ?_⟩
    refine ⟨.ref r, rfl, .inl ⟨rfl, _, SqL.of hr3⟩, r, us' ++ [.ref tv], .ref tv, rfl, rfl, hr3, by simp, ?_⟩
    rw [show (us' ++ [V.ref tv]).dropLast = us' by simp]
    have s4 : Same H (upd H3 r (.lst us')) := same_set s3 nr0
    have tl : TLe H3 (upd H3 r (.lst us')) := fun a xs h => by
      rw [upd_ne (ne_of h hr3 (by intro z; cases z))]
      exact h
    have hr4 : upd H3 r (.lst us') r = some (.lst us') := upd_same
    have htv4 := tl _ _ htv
    have hg4 := hg.mono tl
    have hL4 := hL'.mono tl
    generalize upd H3 r (.lst us') = H4 at s4 hr4 htv4 hg4 hL4
    refine ⟨tv, _, rfl, SqT.of htv4, rfl, _, _, rfl, _, _, rfl, rfl, ?_⟩
    obtain ⟨tg, ws, rfl, htg, hs⟩ := hg4
    obtain ⟨k1, k2, k3⟩ := kids_P d g
    refine ⟨_, rfl, _, rfl, tg, ws, rfl, .inr (SqT.of htg), _, _, rfl, rfl, _, rfl, _, rfl, _, _, rfl, _, _, rfl, ?_⟩
    rw [sumC_append] at eC
    rw [maxD_append] at eD
    rw [mz_append] at eM
    simp only [sumC, maxD, mz] at eC eD eM
    have hmz : mz (L' ++ [(g, d)]) = mz L' + (1 + 2 * cnt g) := by rw [mz_append]; rfl
    have e1 : V.int ((mn : Int) + (ws.length : Int)) = V.int ((mn + g.length : Nat) : Int) := by rw [hs.length]; rfl
    have e2 : V.int (if (d : Int) > (dp : Int) then (d : Int) else (dp : Int)) = V.int ((max dp d : Nat) : Int) := by
      congr 1
      split <;> omega
    refine ⟨.ref tg, rfl, tg, rfl, ⟨ws, SqT.of htg⟩, for_it (walk_tup (xs := ws)) (fun i σ H' => ∃ y6 y7, σ = [some v, some (.int ((mn + g.length : Nat) : Int)), some (.int ((max dp d : Nat) : Int)), some (.ref r), some (.ref tg), some (.int (d : Int)), y6, y7] ∧ Same H H' ∧ TLe H4 H' ∧ ∃ us, H' r = some (.lst us) ∧ IsTs H' (L' ++ kidsP d (g.take i)) us)
      ⟨y6, y7, ?_, s4, TLe.refl _, us', hr4, by simpa [kidsP] using hL4⟩ (fun i σ H' _ ⟨_, _, _, _, tl, _⟩ => SqT.of (tl _ _ htg)) (fun i x σ H5 H6 hi ⟨y6, y7, e1, s5, tl5, us5, hr5, hL5⟩ hY => ?_) (fun σ H' ⟨y6, y7, e1, s5, tl5, us5, hr5, hL5⟩ => ?_)⟩
    · rw [← e1, ← e2]
      rfl
    · obtain ⟨e2, hx⟩ := hY
      subst e1 e2
      obtain ⟨st, hst, hI⟩ := hs.at hx
      have hI := hI.mono tl5
      obtain ⟨hd1, hc1⟩ := at_step hst
      obtain ⟨ts, as, rfl, hts, hla⟩ := hI.open
      have ek : kidsP d (g.take (i + 1)) = kidsP d (g.take i) ++ kids d st := by
        rw [take_next hst]
        simp [kidsP]
      refine ⟨_, rfl, ts, _, 0, .str (wrd st), rfl, rfl, SqT.of hts, atI_nat (j := 0) rfl, by show 3 ≤ sizeLine; decide, fun b nb => ⟨b, _, rfl, .inr (SqT.of upd_same), rfl, rfl, _, rfl, ?_⟩⟩
      have sb := same_upd (o := .tup [.str "if", .str "inner", .str "either"]) nb
      have i3 : inV (.str (wrd st)) [.str "if", .str "inner", .str "either"] = isC st := inV_kw (kw st) [.ite, .inner, .either]
      rw [show (if false = true then !inV (.str (wrd st)) [.str "if", .str "inner", .str "either"] else inV (.str (wrd st)) [.str "if", .str "inner", .str "either"]) = isC st from i3]
      have hr7 := sb _ _ hr5
      have hts7 := sb _ _ hts
      have hI7 := hI.mono (Same.tle sb)
      have hL7 := hL5.mono (Same.tle sb)
      have s7 := Same.trans s5 sb
      have tl7 := TLe.trans tl5 (Same.tle sb)
      generalize upd H6 b (.tup [.str "if", .str "inner", .str "either"]) = H7 at sb hr7 hts7 hI7 hL7 s7 tl7
      have hlen : us5.length ≤ 2001 := by
        rw [hL5.length, List.length_append]
        have a1 := len_mz L'
        have a2 := len_mz (kidsP d (g.take i))
        have a3 : mz (kidsP d (g.take i)) ≤ mz (kidsP d g) := by
          have := mz_append (kidsP d (g.take i)) (kidsP d (g.drop i))
          rw [show kidsP d (g.take i) ++ kidsP d (g.drop i) = kidsP d g by rw [kidsP, kidsP, ← List.flatMap_append, List.take_append_drop]; rfl] at this
          omega
        omega
      refine ite2 (fun c => ?_) (fun c => ?_)
      · obtain ⟨p1, p2, t1, t2, vs1, vs2, bs, rfl, h1, h2, hpt, hbl⟩ := comp_open hI7 hts7 c
        have ekd : kids d st = [(p1, d + 1), (p2, d + 1)] := by simp [kids, hpt]
        have htl : (V.str (wrd st) :: (bs ++ [V.ref t1, V.ref t2])).length = bs.length + 3 := by simp
        refine ⟨.ref r, rfl, .inl ⟨rfl, _, SqL.of hr7⟩, _, rfl, _, rfl, ts, _, rfl, .inr (SqT.of hts7), _, _, rfl, rfl, ((bs.length + 1 : Nat) : Int), (by
          show V.int (((V.str (wrd st) :: (bs ++ [V.ref t1, V.ref t2])).length : Int) - 2) = _
          rw [htl]
          congr 1
          omega), ?_⟩
        dsimp only [tNoPart]
        refine slice_from (k := bs.length + 1) hts7 (by omega) (by rw [htl]; omega) fun e H8 s8 h8 => ?_
        rw [show (V.str (wrd st) :: (bs ++ [V.ref t1, V.ref t2])).drop (bs.length + 1) = [V.ref t1, V.ref t2] by simp] at h8
        refine ⟨e, rfl, ⟨_, SqT.of h8⟩, fun D nD => ?_⟩
        refine lc_it (walk_tup (xs := [V.ref t1, V.ref t2])) (fun j H' => Same H8 H' ∧ ∃ vs, H' D = some (.lst vs) ∧ IsTs H' ([(p1, d + 1), (p2, d + 1)].take j) vs) ⟨same_upd nD, [], upd_same, rfl⟩ (fun j H' _ ⟨s1, _⟩ => Same.sqT s1 (SqT.of h8)) (fun j x H9 H10 hj ⟨s9, vs, hD, hV⟩ hY => ?_) (fun H' ⟨s9, vs, hD, hV⟩ => ?_)
        · obtain ⟨e5, hx5⟩ := hY
          subst e5
          obtain ⟨pr, hpr, hpv⟩ : ∃ pr, [(p1, d + 1), (p2, d + 1)][j]? = some (pr, d + 1) ∧ IsPr H10 pr x := by
            have hj2 : j < 2 := hj
            have tl9 := Same.tle (Same.trans s8 s9)
            rcases (show j = 0 ∨ j = 1 by omega) with e0 | e0
            · subst e0
              cases hx5
              exact ⟨p1, rfl, (isPr_mk h1).mono tl9⟩
            · subst e0
              cases hx5
              exact ⟨p2, rfl, (isPr_mk h2).mono tl9⟩
          refine ⟨rfl, tyes ⟨_, rfl, _, rfl, _, _, rfl, rfl, by show 2 ≤ sizeLine; decide, fun b1 nb1 => ⟨vs, ?_, ?_, ?_, vs ++ [.ref b1], upd_same, ?_⟩⟩⟩
          · rw [upd_ne (ne_of_none hD nb1)]
            exact hD
          · rw [hV.length, List.length_take]
            exact Nat.lt_of_le_of_lt (Nat.min_le_right _ _) (by show 2 < sizeLine; decide)
          · refine same_set (Same.trans s9 (same_upd nb1)) nD
          · have hd9 : TLe H10 (upd (upd H10 b1 (.tup [x, .int ((d : Int) + 1)])) D (.lst (vs ++ [.ref b1]))) := fun a xs h => by
              rw [upd_ne (ne_of h hD (by intro z; cases z))]
              exact same_upd nb1 _ _ h
            rw [take_next hpr]
            refine (hV.mono hd9).append ⟨_, x, [], rfl, ⟨b1, rfl, ?_⟩, hpv.mono hd9, rfl⟩
            rw [upd_ne (fun z => by rw [z] at nb1; rw [nb1] at hD; cases hD), upd_same]
            rfl
        · have s10 := Same.trans s8 s9
          refine ⟨r, D, us5, vs, rfl, rfl, s10 _ _ hr7, hD, ?_, ?_⟩
          · rw [hV.length]
            show us5.length + 2 ≤ sizeLine
            rw [sizeLine_eq]
            omega
          · have tl11 : TLe H' (upd H' r (.lst (us5 ++ vs))) := fun a xs h => by
              rw [upd_ne (ne_of h (s10 _ _ hr7) (by intro z; cases z))]
              exact h
            refine ⟨_, _, rfl, same_set (Same.trans s7 s10) nr0, TLe.trans tl7 (TLe.trans (Same.tle s10) tl11), us5 ++ vs, upd_same, ?_⟩
            rw [ek, ekd, ← List.append_assoc]
            exact ((hL7.mono (Same.tle s10)).append hV).mono tl11
      · refine ⟨_, _, rfl, s7, tl7, us5, hr7, ?_⟩
        rw [ek, show kids d st = [] by simp [kids, (isC_parts (show isC st = false by simpa using c)).2]]
        simpa using hL7
    · rw [List.take_of_length_le (by rw [hs.length]; exact Nat.le_refl _)] at hL5
      refine ⟨mz (L' ++ kidsP d g), ?_, mn + g.length, max dp d, L' ++ kidsP d g, us5, _, _, _, _, rfl, e1, s5, hr5, hL5, ?_, ?_, ?_⟩
      · rw [mz_append, hmz]; omega
      · rw [sumC_append]; omega
      · rw [maxD_append]; omega
      · rw [mz_append]; omega
end
end Pk
-- ## PkParts
set_option Elab.async false
set_option linter.all false
set_option maxRecDepth 100000
set_option maxHeartbeats 4000000
namespace Pk
open PySem PySem.Spec PyProof.Rows L2
/-! ### parts_of, all_steps, depth -/
def pWord : Kw → Str
  | .read => "wc"
  | .write => "cs"
  | .lt => "ws"
  | .tell => "s"
  | .ite => "spp"
  | .inner => "pp"
  | .out => ""
  | .either => "pp"
  | .retry => ""
/-- the global x is a table: k's value -/
def HasTab (K : PySem.W.Frag) (w : World) (mg : Str → Option Value) (x : Str) {ι : Type} (key : ι → Str) (val : ι → V) : Prop := ∃ d, mg x = some (.ref d) ∧ ∀ i, KDct K w d (key i) (val i)
abbrev N_parts_of : List Str := ["step", "wanted", "word", "rest", "sort", "one"]
theorem sc_parts_of : FnScope N_parts_of ["step", "wanted"] (defScope s_parts_of) := ⟨rfl, rfl, rfl, by decide +kernel, rfl, by decide +kernel, by decide +kernel⟩
def spParts : SpN := fun vs H Q => ∃ s v, vs = [v, .str "p"] ∧ IsSt H s v ∧ ∀ H' l us, Same H H' → H l = none → H' l = some (.lst us) → IsPrs H' (parts s) us → Q (.ref l) H'
/-- those items whose sign is p -/
def pick (z : List Nat) (as : List V) : List V := ((z.zip as).filter fun p => decide (p.1 = 112)).map (·.2)
theorem pick_parts {H : Hp} {s : Stp} {t : Addr} {as : List V} (hI : IsSt H s (.ref t)) (ht : H t = some (.tup (.str (wrd s) :: as))) : IsPrs H (parts s) (pick (pWord (kw s)).cps.toList as) ∧ as.length = (pWord (kw s)).cps.size := by
  cases s with
  | read x c => obtain ⟨t', e1, e2⟩ := hI; cases e1; rw [tup_tail ht e2]; exact ⟨rfl, rfl⟩
  | write c a => obtain ⟨va, ⟨t', e1, e2⟩, _⟩ := hI; cases e1; rw [tup_tail ht e2]; exact ⟨rfl, rfl⟩
  | lt x a => obtain ⟨va, ⟨t', e1, e2⟩, _⟩ := hI; cases e1; rw [tup_tail ht e2]; exact ⟨rfl, rfl⟩
  | tell a => obtain ⟨va, ⟨t', e1, e2⟩, _⟩ := hI; cases e1; rw [tup_tail ht e2]; exact ⟨rfl, rfl⟩
  | out => obtain ⟨t', e1, e2⟩ := hI; cases e1; rw [tup_tail ht e2]; exact ⟨rfl, rfl⟩
  | retry => obtain ⟨t', e1, e2⟩ := hI; cases e1; rw [tup_tail ht e2]; exact ⟨rfl, rfl⟩
  | ite a p q =>
    obtain ⟨va, t1, t2, vs1, vs2, ⟨t', e1, e2⟩, _, h1, h2⟩ := hI
    cases e1
    rw [tup_tail ht e2]
    exact ⟨⟨_, _, rfl, isPr_mk h1, _, _, rfl, isPr_mk h2, rfl⟩, rfl⟩
  | inner p q =>
    obtain ⟨t1, t2, vs1, vs2, ⟨t', e1, e2⟩, h1, h2⟩ := hI
    cases e1
    rw [tup_tail ht e2]
    exact ⟨⟨_, _, rfl, isPr_mk h1, _, _, rfl, isPr_mk h2, rfl⟩, rfl⟩
  | either p q =>
    obtain ⟨t1, t2, vs1, vs2, ⟨t', e1, e2⟩, h1, h2⟩ := hI
    cases e1
    rw [tup_tail ht e2]
    exact ⟨⟨_, _, rfl, isPr_mk h1, _, _, rfl, isPr_mk h2, rfl⟩, rfl⟩
theorem pick_next {z : List Nat} {as : List V} {i : Nat} {c : Nat} {y : V} (h1 : z[i]? = some c) (h2 : as[i]? = some y) : pick (z.take (i + 1)) (as.take (i + 1)) = pick (z.take i) (as.take i) ++ (if c = 112 then [y] else []) := by
  have e : (z.take i).length = (as.take i).length := by
    have := (List.getElem?_eq_some_iff.mp h1).1
    have := (List.getElem?_eq_some_iff.mp h2).1
    rw [List.length_take, List.length_take]
    omega
  unfold pick
  rw [take_next h1, take_next h2, List.zip_append e, List.filter_append, List.map_append]
  congr 1
  by_cases hc : c = 112
  · simp [hc]
  · simp [hc]
section
variable {P : Program} {w : World} {K : PySem.W.Frag} {mg : Str → Option Value} {base : Heap}
theorem ok_parts_of {k : Nat} (F : Fd K mg "parts_of" s_parts_of ["step", "wanted"]) (T : HasTab K w mg "PARTS" kwN (fun k => .str (pWord k))) (gz : mg "zip" = none) :
    Cal P w K mg base (k + 1) "parts_of" ["step", "wanted"] spParts := by
  obtain ⟨d, hT, tab⟩ := T
  refine F.ok sc_parts_of (fun vs H Q ⟨p, v, h, _⟩ => by rw [h]; rfl) fun f cdv A outer s H vs Q E hr h => ?_
  obtain ⟨st, v, rfl, hI, q⟩ := h
  refine ⟨_, pss_cons (ps_asg (pv 0) (pg_star rfl (pgs_cons (pg_name (i := 2) sc_parts_of.nd rfl (.inl rfl)) (pgs_star (pg_name (i := 3) sc_parts_of.nd rfl (.inl rfl))))))
    (pss_one (ps_ret (pe_lc (own := [("sort", 4), ("one", 5)]) (g := gTup K 2 (gCons (gName 4) (gCons (gName 5) gNil))) (tt := tTest (tOp rEq (tVar 4) (tVar 1))) rfl sc_parts_of.nd (pi_zipX rfl gz (pa_cons (pe_ix ix_kdict (pe_glob (v := .ref d) rfl hT rfl) (pv 2) (fun _ _ => rfl)) (pa_cons (pv 3) pa_nil))) (blkOk_by (N := N_parts_of) (sc := defScope s_parts_of) (by decide +kernel))
      (fun _ _ _ _ _ => pg_tup rfl (pgs_cons (pg_name (i := 4) sc_parts_of.nd rfl (.inl rfl)) (pgs_cons (pg_name (i := 5) sc_parts_of.nd rfl (.inl rfl)) pgs_nil))) (fun _ _ _ _ _ => pts_one (pt_cmpR op_eq (pv 4) (pv 1) (nomark _))) (fun _ _ _ _ _ => pv 5)))), ?_⟩
  obtain ⟨t, as, rfl, ht, hlen⟩ := hI.open
  obtain ⟨hpk, hsz⟩ := pick_parts hI ht
  refine ⟨.ref t, rfl, t, _, as, rfl, SqT.of ht, by omega, fun l nl => ?_⟩
  have sl := same_upd (o := .lst as) nl
  have hl : upd H l (.lst as) l = some (.lst as) := upd_same
  generalize upd H l (.lst as) = H1 at sl hl
  refine ⟨_, _, rfl, _, _, rfl, rfl, ?_⟩
  refine ⟨_, rfl, d, _, .str (pWord (kw st)), rfl, rfl, tab (kw st), _, rfl, _, l, as, rfl, SqL.of hl, fun D nD => ?_⟩
  have hn : as.length = min (pWord (kw st)).cps.size as.length := by omega
  refine lc_it (walk_zipX (z := pWord (kw st)) (ys := as) hn) (fun j H' => Same H1 H' ∧ H' D = some (.lst (pick ((pWord (kw st)).cps.toList.take j) (as.take j)))) ⟨same_upd nD, upd_same⟩ (fun j H' _ ⟨s1, _⟩ => Same.seq s1 (SqL.of hl)) (fun j x H4 H5 hj ⟨s1, hD⟩ hY => ?_) (fun H' ⟨s1, hD⟩ => ?_)
  · obtain ⟨T, c, y, rfl, nT, e5, hc, hy⟩ := hY
    subst e5
    have sT := same_upd (o := .tup [.str ⟨#[c]⟩, y]) nT
    have hT5 : upd H4 T (.tup [.str ⟨#[c]⟩, y]) T = some (.tup [.str ⟨#[c]⟩, y]) := upd_same
    generalize upd H4 T (.tup [.str ⟨#[c]⟩, y]) = H5 at sT hT5
    have hc' : (pWord (kw st)).cps.toList[j]? = some c := by rw [Array.getElem?_toList]; exact hc
    refine ⟨T, _, rfl, SqT.of hT5, rfl, _, _, rfl, _, _, rfl, rfl, rfl, ?_⟩
    refine ⟨_, rfl, _, rfl, rfl, _, rfl, ?_⟩
    have ec : decide (V.str ⟨#[c]⟩ = V.str "p") = decide (c = 112) := by
      by_cases e : c = 112
      · subst e
        rfl
      · rw [decide_eq_false e, decide_eq_false]
        intro z
        apply e
        have := V.str.inj z
        have := congrArg (fun x : Str => x.cps) this
        have : (#[c] : Array Nat) = #[112] := this
        simpa using this
    rw [ec]
    refine ite2 (fun c2 => ?_) (fun c2 => ?_)
    · have e := of_decide_eq_true c2
      refine ⟨_, rfl, _, sT _ _ hD, ?_, same_set (Same.trans s1 sT) nD, ?_⟩
      · refine Nat.lt_of_le_of_lt (show _ ≤ 3 from ?_) (by decide)
        unfold pick
        rw [List.length_map]
        refine Nat.le_trans (List.length_filter_le _ _) ?_
        rw [List.length_zip]
        refine Nat.le_trans (Nat.min_le_right _ _) ?_
        rw [List.length_take]
        omega
      · rw [upd_same, pick_next hc' hy, if_pos e]
    · have e : ¬ c = 112 := fun z => c2 (decide_eq_true z)
      refine ⟨Same.trans s1 sT, ?_⟩
      rw [sT _ _ hD, pick_next hc' hy, if_neg e, List.append_nil]
  · rw [List.take_of_length_le (by rw [Array.length_toList]; omega), List.take_length] at hD
    have nD0 : H D = none := by
      cases e : H D with
      | none => rfl
      | some o => rw [sl _ _ e] at nD; cases nD
    exact q _ _ _ (Same.trans sl s1) nD0 hD (hpk.mono (Same.tle (Same.trans sl s1)))
end
abbrev N_all_steps : List Str := ["program", "found", "step", "part"]
theorem sc_all_steps : FnScope N_all_steps ["program"] (defScope s_all_steps) := ⟨rfl, rfl, rfl, by decide +kernel, rfl, by decide +kernel, by decide +kernel⟩
abbrev N_depth : List Str := ["program", "step", "part"]
theorem sc_depth : FnScope N_depth ["program"] (defScope s_depth) := ⟨rfl, rfl, rfl, by decide +kernel, rfl, by decide +kernel, by decide +kernel⟩
def spAll (n : Nat) : SpN := fun vs H Q => ∃ p v, vs = [v] ∧ IsPr H p v ∧ dep0 p < n ∧ cnt p ≤ 1000 ∧ ∀ H' l us, Same H H' → H' l = some (.lst us) → us.length = cnt p → Q (.ref l) H'
def spDep (n : Nat) : SpN := fun vs H Q => ∃ p v, vs = [v] ∧ IsPr H p v ∧ dep0 p < n ∧ cnt p ≤ 1000 ∧ ∀ H', Same H H' → Q (.int (dep p : Int)) H'
theorem parts_in {s : Stp} {p : List Stp} (h : p ∈ parts s) : dep0 p < depS s ∧ cnt p < cntS s := by
  cases s with
  | ite a p q => simp [parts] at h; rcases h with rfl | rfl <;> simp only [depS, cntS] <;> omega
  | inner p q => simp [parts] at h; rcases h with rfl | rfl <;> simp only [depS, cntS] <;> omega
  | either p q => simp [parts] at h; rcases h with rfl | rfl <;> simp only [depS, cntS] <;> omega
  | _ => simp [parts] at h
def cntL : List (List Stp) → Nat
  | [] => 0
  | p :: r => cnt p + cntL r
theorem cntL_append (a b : List (List Stp)) : cntL (a ++ b) = cntL a + cntL b := by
  induction a with
  | nil => simp [cntL]
  | cons x r ih => simp only [List.cons_append, cntL, ih]; omega
theorem cntL_parts (s : Stp) : 1 + cntL (parts s) = cntS s := by
  cases s <;> simp [parts, cntL, cntS]
theorem cntL_take (l : List (List Stp)) (i : Nat) : cntL (l.take i) ≤ cntL l := by
  have := cntL_append (l.take i) (l.drop i)
  rw [List.take_append_drop] at this
  omega
/-- the greatest depth -/
def maxL : List (List Stp) → Nat
  | [] => 0
  | p :: r => max (dep p) (maxL r)
theorem maxL_parts (s : Stp) : maxL (parts s) = depS s := by
  cases s <;> simp [parts, maxL, depS, dep]
section
variable {P : Program} {w : World} {K : PySem.W.Frag} {mg : Str → Option Value} {base : Heap}
theorem ok_all_steps (F : Fd K mg "all_steps" s_all_steps ["program"]) (Cp : Cal P w K mg base 1 "parts_of" ["step", "wanted"] spParts) : ∀ n, Cal P w K mg base (n + 1) "all_steps" ["program"] (spAll n)
  | 0 => F.none fun vs H Q ⟨p, v, _, _, h, _⟩ => absurd h (Nat.not_lt_zero _)
  | n + 1 => by
    have C := ok_all_steps F Cp n
    have Cq := Cp.mono (show 1 ≤ n + 1 by omega)
    refine F.ok sc_all_steps (fun vs H Q ⟨p, v, h, _⟩ => by rw [h]; rfl) fun f cdv A outer s H vs Q E hr h => ?_
    obtain ⟨p, v, rfl, hp, hd, hc, q⟩ := h
    refine ⟨_, pss_cons (ps_set (i := 1) sc_all_steps.nd rfl (.inl rfl) (pe_lst pa_nil))
      (pss_cons (ps_for PassesOwn.never rfl (pi_tup (pv 0)) (pg_name (i := 2) sc_all_steps.nd rfl (.inl rfl))
        (pss_cons (ps_expr (pe_bm PySem.F.plainAttrs_list PySem.F.slot_list_append PySem.F.type_list_append mt_append (pv 1) (pa_cons (pv 2) pa_nil)))
        (pss_one (ps_for PassesOwn.never rfl (pi_list (pe_cal Cq hr rfl (pa_cons (pv 2) (pa_cons pe_str pa_nil)))) (pg_name (i := 3) sc_all_steps.nd rfl (.inl rfl))
          (pss_one (ps_expr (pe_bm PySem.F.plainAttrs_list PySem.F.slot_list_extend PySem.F.type_list_extend mt_extend (pv 1) (pa_cons (pe_cal C hr rfl (pa_cons (pv 3) pa_nil)) pa_nil))))))))
      (pss_one (ps_ret (pv 1)))), ?_⟩
    obtain ⟨t, ws, rfl, ht, hs⟩ := hp
    refine ⟨Nat.zero_le _, fun r nr => ?_⟩
    have sr := same_upd (o := .lst []) nr
    have hr0 : upd H r (.lst []) r = some (.lst []) := upd_same
    generalize upd H r (.lst []) = H0 at sr hr0
    refine ⟨.ref t, rfl, t, rfl, ⟨ws, SqT.of (sr _ _ ht)⟩, for_it (walk_tup (xs := ws)) (fun i σ H' => ∃ y2 y3 us, σ = [some (.ref t), some (.ref r), y2, y3] ∧ Same H H' ∧ H' r = some (.lst us) ∧ us.length = cnt (p.take i))
      ⟨none, none, [], rfl, sr, hr0, rfl⟩ (fun i σ H' _ ⟨_, _, _, _, sm, _⟩ => Same.sqT sm (SqT.of ht)) (fun i x σ H1 H2 hi ⟨y2, y3, us, e1, sm, hr1, hl⟩ hY => ?_) (fun σ H' ⟨y2, y3, us, e1, sm, hr1, hl⟩ => ?_)⟩
    · obtain ⟨e2, hx⟩ := hY
      subst e1 e2
      obtain ⟨st, hst, hI⟩ := hs.at hx
      obtain ⟨hd1, hc1⟩ := at_step hst
      have htk : cnt (p.take (i + 1)) = cnt (p.take i) + cntS st := by
        rw [take_next hst, cnt_append]
        simp [cnt]
      have htl := cnt_take p (i + 1)
      refine ⟨.ref r, rfl, .inl ⟨rfl, _, SqL.of hr1⟩, _, rfl, r, us, _, rfl, rfl, hr1, by rw [sizeLine_eq]; omega, ?_⟩
      have s3 := same_set sm nr (o := .lst (us ++ [x]))
      have hr3 : upd H2 r (.lst (us ++ [x])) r = some (.lst (us ++ [x])) := upd_same
      generalize upd H2 r (.lst (us ++ [x])) = H3 at s3 hr3
      refine ⟨_, rfl, st, _, rfl, hI.mono (Same.tle s3), fun H4 l ps s4 nl hl4 hps => ?_⟩
      have s04 := Same.trans s3 s4
      have hne : l ≠ r := fun e => by rw [e, hr3] at nl; cases nl
      refine ⟨l, rfl, ⟨ps, SqL.of hl4⟩, for_it (walk_list (xs := ps)) (fun j σ H' => ∃ y3 vs, σ = [some (.ref t), some (.ref r), some x, y3] ∧ Same H H' ∧ (∀ b o, b ≠ r → H4 b = some o → H' b = some o) ∧ H' r = some (.lst vs) ∧ vs.length = cnt (p.take i) + 1 + cntL ((parts st).take j))
        ⟨y3, us ++ [x], rfl, s04, fun b o _ e => e, s4 _ _ hr3, by simp [cntL, hl]⟩ (fun j σ H' _ ⟨_, _, _, _, kp, _⟩ => SqL.of (kp _ _ hne hl4)) (fun j z σ H5 H6 hj ⟨y3, vs, e1, s5, kp, hr5, hl5⟩ hY => ?_) (fun σ H' ⟨y3, vs, e1, s5, kp, hr5, hl5⟩ => ?_)⟩
      · obtain ⟨e2, hx2⟩ := hY
        subst e1 e2
        obtain ⟨g, hg, hgv⟩ := hps.at hx2
        obtain ⟨hd2, hc2⟩ := parts_in (List.mem_of_getElem? hg)
        have tl : TLe H4 H6 := fun a xs h => kp a _ (fun e => by rw [e, s4 _ _ hr3] at h; cases h) h
        have htk2 : cntL ((parts st).take (j + 1)) = cntL ((parts st).take j) + cnt g := by
          rw [take_next hg, cntL_append]
          simp [cntL]
        have hcl := cntL_take (parts st) (j + 1)
        have hcp := cntL_parts st
        refine ⟨.ref r, rfl, .inl ⟨rfl, _, SqL.of hr5⟩, _, rfl, g, _, rfl, hgv.mono tl, by omega, by omega, fun H7 l2 zs s7 hl7 hz => ?_⟩
        refine ⟨r, l2, vs, zs, rfl, rfl, s7 _ _ hr5, hl7, by rw [sizeLine_eq]; omega, ?_⟩
        refine ⟨_, vs ++ zs, rfl, same_set (Same.trans s5 s7) nr, fun b o hb e => ?_, upd_same, ?_⟩
        · rw [upd_ne hb]
          exact s7 _ _ (kp b o hb e)
        · rw [List.length_append, hl5, hz, htk2]
          omega
      · subst e1
        rw [show (parts st).take ps.length = parts st from List.take_of_length_le (by rw [hps.length]; exact Nat.le_refl _)] at hl5
        have hcp := cntL_parts st
        exact ⟨_, _, vs, rfl, s5, hr5, by omega⟩
    · subst e1
      rw [List.take_of_length_le (by rw [hs.length]; exact Nat.le_refl _)] at hl
      exact ⟨_, rfl, q H' r us sm hr1 hl⟩
theorem maxOf_nat (l : List (List Stp)) : ∀ a : Nat, PySem.W.maxOf (a : Int) (l.map fun g => (dep g : Int)) = ((max a (maxL l) : Nat) : Int) := by
  induction l with
  | nil => intro a; show (a : Int) = _; simp [maxL]
  | cons g r ih =>
    intro a
    have e : (if PySem.W.DatumOrd.lt (a : Int) (dep g : Int) = true then (dep g : Int) else (a : Int)) = ((max a (dep g) : Nat) : Int) := by
      show (if decide ((a : Int) < (dep g : Int)) = true then (dep g : Int) else (a : Int)) = _
      split
      · rename_i h
        have := of_decide_eq_true h
        omega
      · rename_i h
        have : ¬ ((a : Int) < (dep g : Int)) := fun z => h (decide_eq_true z)
        omega
    show PySem.W.maxOf (if PySem.W.DatumOrd.lt (a : Int) (dep g : Int) = true then (dep g : Int) else (a : Int)) (r.map fun g => (dep g : Int)) = _
    rw [e, ih]
    congr 1
    simp only [maxL]
    omega
theorem maxL_append (a b : List (List Stp)) : maxL (a ++ b) = max (maxL a) (maxL b) := by
  induction a with
  | nil => simp [maxL]
  | cons x r ih => simp only [List.cons_append, maxL, ih]; omega
theorem maxL_flat (p : List Stp) : maxL (p.flatMap parts) = dep0 p := by
  induction p with
  | nil => rfl
  | cons s r ih => rw [List.flatMap_cons, maxL_append, maxL_parts, ih]; rfl
theorem flat_len (p : List Stp) : (p.flatMap parts).length ≤ 2 * p.length := by
  induction p with
  | nil => simp
  | cons s r ih =>
    rw [List.flatMap_cons, List.length_append, List.length_cons]
    have : (parts s).length ≤ 2 := by cases s <;> simp [parts]
    omega
theorem ok_depth (F : Fd K mg "depth" s_depth ["program"]) (Cp : Cal P w K mg base 1 "parts_of" ["step", "wanted"] spParts) (gm : mg "max" = none) : ∀ n, Cal P w K mg base (n + 1) "depth" ["program"] (spDep n)
  | 0 => F.none fun vs H Q ⟨p, v, _, _, h, _⟩ => absurd h (Nat.not_lt_zero _)
  | n + 1 => by
    have C := ok_depth F Cp gm n
    have Cq := Cp.mono (show 1 ≤ n + 1 by omega)
    refine F.ok sc_depth (fun vs H Q ⟨p, v, h, _⟩ => by rw [h]; rfl) fun f cdv A outer s H vs Q E hr h => ?_
    obtain ⟨p, v, rfl, hp, hd, hc, q⟩ := h
    refine ⟨_, pss_one (ps_ret (pe_op op_add pe_int (pe_callBK (cr_maxD rfl hr.units) (by rfl) gm (by decide +kernel)
      (pa_cons (pe_lc2 (own := [("step", 1), ("part", 2)]) (vs1 := [2]) (wi1 := iList K (tCal spParts (tCons (tVar 1) (tCons (tC (.str "p")) tNil)))) (te := tCal (spDep n) (tCons (tVar 2) tNil)) (g := gName 1) (g1 := gName 2) (tt := tYes) (tt1 := tYes) rfl sc_depth.nd (pi_tup (pv 0)) (blkOk_by (N := N_depth) (sc := defScope s_depth) (by decide +kernel)) (by decide)
        (fun _ _ _ _ _ => pg_name (i := 1) sc_depth.nd rfl (.inl rfl)) (fun _ _ _ _ _ => pts_nil) (fun _ _ _ _ _ => pi_list (pe_cal Cq hr rfl (pa_cons (pv 1) (pa_cons pe_str pa_nil))))
        (fun _ _ _ _ _ => pg_name (i := 2) sc_depth.nd rfl (.inl rfl)) (fun _ _ _ _ _ => pts_nil) (fun _ _ _ _ _ => pe_cal C hr rfl (pa_cons (pv 2) pa_nil))) pa_nil) (pk_cons pe_int pk_nil)))), ?_⟩
    obtain ⟨t, ws, rfl, ht, hs⟩ := hp
    refine ⟨.ref t, rfl, t, rfl, ⟨ws, SqT.of ht⟩, fun D nD => ?_⟩
    have hlen := hs.length
    have hl1 : ws.length ≤ 1000 := by rw [hlen]; exact Nat.le_trans (len_le_cnt _) hc
    have last : ∀ H', Same H H' → H' D = some (.lst ((p.flatMap parts).map fun g => V.int (dep g : Int))) → rMaxD K [.ref D] [.int 0] H' fun y H2 => rI0 (fun i j => .int (i + j)) (.int 1) y H2 fun y H3 => Q y H3 := fun H' s1 hD => by
      refine ⟨D, (p.flatMap parts).map fun g => (dep g : Int), 0, rfl, rfl, SqL.of (by rw [hD, List.map_map]; rfl), fun e => ?_, fun y ys e => ?_⟩
      · refine ⟨_, _, rfl, rfl, ?_⟩
        have e0 : p.flatMap parts = [] := List.map_eq_nil_iff.mp e
        have := maxL_flat p
        rw [e0] at this
        have hq := q H' s1
        rw [show dep p = 1 by simp only [dep, ← this, maxL]] at hq
        exact hq
      · refine ⟨_, _, rfl, rfl, ?_⟩
        have hq := q H' s1
        cases hf : p.flatMap parts with
        | nil => rw [hf] at e; simp at e
        | cons g r =>
          rw [hf] at e
          rw [List.map_cons] at e
          injection e with e1 e2
          subst e1 e2
          rw [maxOf_nat]
          have := maxL_flat p
          rw [hf] at this
          show Q (.int ((1 : Int) + ((max (dep g) (maxL r) : Nat) : Int))) H'
          rw [show (1 : Int) + ((max (dep g) (maxL r) : Nat) : Int) = (dep p : Int) by simp only [dep, ← this, maxL]; omega]
          exact hq
    refine ⟨fun i m H' => m = ws.length - i ∧ i ≤ ws.length ∧ Same H H' ∧ H' D = some (.lst (((p.take i).flatMap parts).map fun g => V.int (dep g : Int))), ⟨ws.length, by simp, Nat.zero_le _, same_upd nD, upd_same⟩, ?_⟩
    rintro i m H1 ⟨rfl, hi, s1, hD⟩
    by_cases hlt : i < ws.length
    · refine .inr ⟨(walk_tup (xs := ws)).goes i H1 hlt (Same.sqT s1 (SqT.of ht)), fun H' => Same H H' ∧ H' D = some (.lst (((p.take (i + 1)).flatMap parts).map fun g => V.int (dep g : Int))), fun H' p' => ⟨ws.length - (i + 1), by omega, rfl, hlt, p'.1, p'.2⟩, fun x H2 y => ?_⟩
      obtain ⟨e2, hx⟩ := (walk_tup (xs := ws)).yields i H1 x H2 hlt (Same.sqT s1 (SqT.of ht)) y
      subst e2
      obtain ⟨st, hst, hI⟩ := hs.at hx
      obtain ⟨hd1, hc1⟩ := at_step hst
      have efl : (p.take (i + 1)).flatMap parts = (p.take i).flatMap parts ++ parts st := by
        rw [take_next hst, List.flatMap_append]
        simp
      refine ⟨rfl, tyes ⟨_, rfl, st, _, rfl, hI.mono (Same.tle s1), fun H3 l ps s3 nl hl3 hps => ?_⟩⟩
      have s03 := Same.trans s1 s3
      have hne : l ≠ D := fun e => by rw [e, hD] at nl; cases nl
      refine ⟨l, rfl, ⟨ps, SqL.of hl3⟩, fun j k H' => k = ps.length - j ∧ j ≤ ps.length ∧ Same H H' ∧ (∀ b o, b ≠ D → H3 b = some o → H' b = some o) ∧ H' D = some (.lst (((p.take i).flatMap parts ++ (parts st).take j).map fun g => V.int (dep g : Int))), ⟨ps.length, by simp, Nat.zero_le _, s03, fun b o _ e => e, ?_⟩, ?_⟩
      · rw [s3 _ _ hD]
        simp
      · rintro j k H4 ⟨rfl, hj, s4, kp, hD4⟩
        by_cases hlj : j < ps.length
        · refine .inr ⟨(walk_list (xs := ps)).goes j H4 hlj (SqL.of (kp _ _ hne hl3)), fun H' => Same H H' ∧ (∀ b o, b ≠ D → H3 b = some o → H' b = some o) ∧ H' D = some (.lst (((p.take i).flatMap parts ++ (parts st).take (j + 1)).map fun g => V.int (dep g : Int))), fun H' p' => ⟨ps.length - (j + 1), by omega, rfl, hlj, p'.1, p'.2.1, p'.2.2⟩, fun x2 H5 y2 => ?_⟩
          obtain ⟨e5, hx2⟩ := (walk_list (xs := ps)).yields j H4 x2 H5 hlj (SqL.of (kp _ _ hne hl3)) y2
          subst e5
          obtain ⟨g, hg, hgv⟩ := hps.at hx2
          obtain ⟨hd2, hc2⟩ := parts_in (List.mem_of_getElem? hg)
          have tl : TLe H3 H5 := fun a xs h => kp a _ (fun e => by rw [e, s3 _ _ hD] at h; cases h) h
          refine ⟨rfl, tyes ⟨_, rfl, g, _, rfl, hgv.mono tl, by omega, by omega, fun H6 s6 => ⟨_, s6 _ _ hD4, ?_, same_set (Same.trans s4 s6) nD, fun b o hb e => ?_, ?_⟩⟩⟩
          · have a1 := flat_len (p.take i)
            rw [List.length_map, List.length_append, List.length_take, sizeLine_eq]
            rw [List.length_take] at a1
            have : (parts st).length ≤ 2 := by cases st <;> simp [parts]
            omega
          · rw [upd_ne hb]
            exact s6 _ _ (kp b o hb e)
          · rw [upd_same, take_next hg, ← List.append_assoc, List.map_append (l₁ := (p.take i).flatMap parts ++ (parts st).take j)]
            rfl
        · have e : j = ps.length := by omega
          subst e
          refine .inl ⟨(walk_list (xs := ps)).stops H4 (SqL.of (kp _ _ hne hl3)), s4, ?_⟩
          rw [hD4, efl, show (parts st).take ps.length = parts st from List.take_of_length_le (by rw [hps.length]; exact Nat.le_refl _)]
    · have e : i = ws.length := by omega
      subst e
      refine .inl ⟨(walk_tup (xs := ws)).stops H1 (Same.sqT s1 (SqT.of ht)), ?_⟩
      rw [List.take_of_length_le (by rw [hlen]; exact Nat.le_refl _)] at hD
      exact last H1 s1 hD
end
end Pk
-- ## PkState
set_option Elab.async false
set_option linter.all false
/-! The walk's state, as tables; bounds. No Python here. -/
namespace Pk
open PySem
section
variable {κ : Type} [DecidableEq κ]
def lk (g : List (κ × Int)) (k : κ) : Option Int := (g.find? fun p => decide (p.1 = k)).map (·.2)
def pt (g : List (κ × Int)) (k : κ) (i : Int) : List (κ × Int) :=
  if (g.any fun kv => decide (kv.1 = k)) = true then g.map (fun kv => if kv.1 = k then (kv.1, i) else kv) else g ++ [(k, i)]
theorem lk_mem {g : List (κ × Int)} {k : κ} {i : Int} (h : lk g k = some i) : ∃ p ∈ g, p.2 = i := by
  unfold lk at h
  obtain ⟨p, hp, e⟩ := Option.map_eq_some_iff.mp h
  exact ⟨p, List.mem_of_find?_eq_some hp, e⟩
theorem pt_len (g : List (κ × Int)) (k : κ) (i : Int) : (pt g k i).length ≤ g.length + 1 := by
  unfold pt
  split <;> simp
theorem pt_mem {g : List (κ × Int)} {k : κ} {i : Int} {p : κ × Int} (h : p ∈ pt g k i) : p.2 = i ∨ p ∈ g := by
  unfold pt at h
  split at h
  · obtain ⟨q, hq, e⟩ := List.mem_map.mp h
    split at e
    · exact .inl (by rw [← e])
    · exact .inr (by rw [← e]; exact hq)
  · rcases List.mem_append.mp h with h | h
    · exact .inr h
    · rw [List.mem_singleton.mp h]
      exact .inl rfl
theorem pt_key {g : List (κ × Int)} {k : κ} {i : Int} {p : κ × Int} (h : p ∈ pt g k i) : p.1 = k ∨ ∃ q ∈ g, q.1 = p.1 := by
  unfold pt at h
  split at h
  · obtain ⟨q, hq, e⟩ := List.mem_map.mp h
    refine .inr ⟨q, hq, ?_⟩
    split at e <;> rw [← e]
  · rcases List.mem_append.mp h with h | h
    · exact .inr ⟨p, h, rfl⟩
    · rw [List.mem_singleton.mp h]
      exact .inl rfl
end
abbrev Giv := List (Str × Int)
/-- what a sum comes to -/
def evS (g : Giv) : Sm → Int
  | .num i => i
  | .slot x => (lk g x).getD 0
  | .bin .plus a b => evS g a + evS g b
  | .bin .minus a b => evS g a - evS g b
  | .bin .less a b => if evS g a < evS g b then 1 else 0
def sdep : Sm → Nat
  | .bin _ a b => 1 + max (sdep a) (sdep b)
  | _ => 0
/-- the numbers written in a sum are small -/
def smB (B : Nat) : Sm → Prop
  | .num i => i.natAbs ≤ B
  | .slot _ => True
  | .bin _ a b => smB B a ∧ smB B b
theorem evS_le {g : Giv} {B : Nat} (h1 : 1 ≤ B) (hg : ∀ p ∈ g, p.2.natAbs ≤ B) : ∀ {a : Sm}, smB B a → (evS g a).natAbs ≤ 2 ^ sdep a * B
  | .num i, h => by simpa [evS, sdep, smB] using h
  | .slot x, _ => by
    simp only [evS, sdep, Nat.pow_zero, Nat.one_mul]
    cases e : lk g x with
    | none => simp
    | some i =>
      obtain ⟨p, hp, e2⟩ := lk_mem e
      rw [← e2]
      exact hg p hp
  | .bin o a b, h => by
    have ha := evS_le h1 hg h.1
    have hb := evS_le h1 hg h.2
    have pa : 2 ^ sdep a ≤ 2 ^ max (sdep a) (sdep b) := Nat.pow_le_pow_right (by omega) (by omega)
    have pb : 2 ^ sdep b ≤ 2 ^ max (sdep a) (sdep b) := Nat.pow_le_pow_right (by omega) (by omega)
    have qa := Nat.mul_le_mul_right B pa
    have qb := Nat.mul_le_mul_right B pb
    have e : 2 ^ sdep (.bin o a b) * B = 2 * (2 ^ max (sdep a) (sdep b) * B) := by
      simp only [sdep, Nat.pow_add, Nat.pow_one, Nat.mul_assoc]
    have e1 : 1 ≤ 2 ^ max (sdep a) (sdep b) * B := Nat.mul_pos (Nat.pow_pos (by omega)) h1
    rw [e]
    cases o with
    | plus => simp only [evS]; omega
    | minus => simp only [evS]; omega
    | less => simp only [evS]; split <;> simp <;> omega

/-! ### the walk -/
structure Wk where
  given : Giv
  wrote : List (Int × Int)
  spoke : List Int
  saw : List (Int × Int)
/-- a cell as the walk sees it -/
def seeV (base : List Int) (s : Wk) (c : Nat) : Int := match lk s.wrote (c : Int) with
  | some v => v
  | none => (lk s.saw (c : Int)).getD (base.getD c 0)
def seeW (base : List Int) (s : Wk) (c : Nat) : Wk := match lk s.wrote (c : Int) with
  | some _ => s
  | none => match lk s.saw (c : Int) with
    | some _ => s
    | none => { s with saw := pt s.saw (c : Int) (base.getD c 0) }
def primW (base : List Int) : Stp → Wk → Wk
  | .read x c, s => { seeW base s c with given := pt (seeW base s c).given x (seeV base s c) }
  | .write c a, s => { s with wrote := pt s.wrote (c : Int) (evS s.given a) }
  | .lt x a, s => { s with given := pt s.given x (evS s.given a) }
  | .tell a, s => { s with spoke := s.spoke ++ [evS s.given a] }
  | _, s => s
def opsW (base : List Int) : Ops Wk where
  prim := primW base
  pos := fun a s => decide (0 < evS s.given a)
  back := fun s s' => { s' with given := s.given, wrote := s.wrote, spoke := s.spoke }
  num := fun a i s h => by
    cases a <;> simp [isNum] at h
    subst h
    rfl
/-- bounds: n counts the steps behind -/
def big (n : Nat) : Nat := 10 ^ 60 * 8 ^ n
structure WB (n : Nat) (s : Wk) : Prop where
  g : ∀ p ∈ s.given, p.2.natAbs ≤ big n
  w : ∀ p ∈ s.wrote, p.2.natAbs ≤ big n
  t : ∀ i ∈ s.spoke, i.natAbs ≤ big n
  r : ∀ p ∈ s.saw, p.2.natAbs ≤ big n
  wk : ∀ p ∈ s.wrote, p.1.natAbs ≤ 100
  rk : ∀ p ∈ s.saw, p.1.natAbs ≤ 100
  gl : s.given.length ≤ 10 + n
  wl : s.wrote.length ≤ n
  tl : s.spoke.length ≤ n
  rl : s.saw.length ≤ n
theorem big_mono {m n : Nat} (h : m ≤ n) : big m ≤ big n := Nat.mul_le_mul_left _ (Nat.pow_le_pow_right (by omega) h)
theorem big_succ (n : Nat) : 8 * big n = big (n + 1) := by
  unfold big
  rw [show 8 ^ (n + 1) = 8 * 8 ^ n from by rw [Nat.pow_succ, Nat.mul_comm]]
  exact Nat.mul_left_comm _ _ _
theorem big_pos (n : Nat) : 1 ≤ big n := Nat.mul_pos (Nat.pow_pos (by omega)) (Nat.pow_pos (by omega))
theorem WB.mono {m n : Nat} {s : Wk} (W : WB m s) (h : m ≤ n) : WB n s := by
  have b := big_mono h
  obtain ⟨a1, a2, a3, a4, a5, a6, a7, a8, a9, a10⟩ := W
  exact ⟨fun p hp => Nat.le_trans (a1 p hp) b, fun p hp => Nat.le_trans (a2 p hp) b, fun p hp => Nat.le_trans (a3 p hp) b, fun p hp => Nat.le_trans (a4 p hp) b, a5, a6, by omega, by omega, by omega, by omega⟩
/-- the steps that the walk can take: cells that there are, small numbers, sums that are not deep -/
def okA (a : Sm) : Prop := smB (10 ^ 60) a ∧ sdep a ≤ 3
def okS (m : Nat) : Stp → Prop
  | .read _ c => c < m
  | .write c a => c < m ∧ okA a
  | .lt _ a => okA a
  | .tell a => okA a
  | _ => True
abbrev okP (m : Nat) (p : List Stp) : Prop := allP (okS m) okA p
abbrev baseOk (base : List Int) : Prop := (∀ i ∈ base, i.natAbs ≤ 10 ^ 60) ∧ base.length ≤ 10
theorem smB_mono {A B : Nat} (h : A ≤ B) : ∀ {a : Sm}, smB A a → smB B a
  | .num _, k => Nat.le_trans (show _ ≤ A from k) h
  | .slot _, _ => trivial
  | .bin _ _ _, k => ⟨smB_mono h k.1, smB_mono h k.2⟩
theorem big_base (n : Nat) : 10 ^ 60 ≤ big n := by
  have : 1 ≤ 8 ^ n := Nat.pow_pos (by omega)
  unfold big
  generalize 10 ^ 60 = a
  exact Nat.le_mul_of_pos_right a this
theorem evS_big {n : Nat} {s : Wk} (W : WB n s) {a : Sm} (h : okA a) : (evS s.given a).natAbs ≤ big (n + 1) := by
  have := evS_le (big_pos n) W.g (smB_mono (big_base n) h.1)
  refine Nat.le_trans this ?_
  rw [← big_succ]
  refine Nat.mul_le_mul_right _ ?_
  exact Nat.le_trans (Nat.pow_le_pow_right (by omega) h.2) (by decide)
theorem base_le {base : List Int} (hb : baseOk base) (c : Nat) : (base.getD c 0).natAbs ≤ 10 ^ 60 := by
  rw [List.getD_eq_getElem?_getD]
  cases e : base[c]? with
  | none => simp
  | some i => exact hb.1 i (List.mem_of_getElem? e)
theorem seeV_big {n : Nat} {s : Wk} {base : List Int} (hb : baseOk base) (W : WB n s) (c : Nat) : (seeV base s c).natAbs ≤ big n := by
  unfold seeV
  split
  · rename_i v e
    obtain ⟨p, hp, e2⟩ := lk_mem e
    rw [← e2]
    exact W.w p hp
  · cases e : lk s.saw (c : Int) with
    | none => exact Nat.le_trans (base_le hb c) (big_base n)
    | some v =>
      obtain ⟨p, hp, e2⟩ := lk_mem e
      show v.natAbs ≤ _
      rw [← e2]
      exact W.r p hp
theorem WB.see {n m : Nat} {s : Wk} {base : List Int} (hb : baseOk base) (W : WB n s) {c : Nat} (hc : c < m) (hm : m ≤ 10) : WB (n + 1) (seeW base s c) := by
  have W1 := W.mono (Nat.le_succ n)
  unfold seeW
  split
  · exact W1
  · split
    · exact W1
    · refine ⟨W1.g, W1.w, W1.t, fun p hp => ?_, W1.wk, fun p hp => ?_, W1.gl, W1.wl, W1.tl, ?_⟩
      · rcases pt_mem hp with e | h
        · rw [e]
          exact Nat.le_trans (base_le hb c) (big_base _)
        · exact W1.r p h
      · rcases pt_key hp with e | ⟨q, hq, e⟩
        · rw [e]
          show (c : Int).natAbs ≤ 100
          omega
        · rw [← e]
          exact W.rk q hq
      · have := pt_len s.saw (c : Int) (base.getD c 0)
        have := W.rl
        show (pt s.saw (c : Int) (base.getD c 0)).length ≤ n + 1
        omega
theorem seeW_given (base : List Int) (s : Wk) (c : Nat) : (seeW base s c).given = s.given := by
  unfold seeW
  split
  · rfl
  · split <;> rfl
theorem WB.prim {n m : Nat} {s : Wk} {base : List Int} (hb : baseOk base) (W : WB n s) {st : Stp} (h : okS m st) (hm : m ≤ 10) : WB (n + 1) (primW base st s) := by
  have W1 := W.mono (Nat.le_succ n)
  cases st with
  | read x c =>
    have V := W.see hb (show c < m from h) hm
    have hv := Nat.le_trans (seeV_big hb W c) (big_mono (Nat.le_succ n))
    refine ⟨fun p hp => ?_, V.w, V.t, V.r, V.wk, V.rk, ?_, V.wl, V.tl, V.rl⟩
    · rcases pt_mem hp with e | h
      · rw [e]; exact hv
      · exact V.g p h
    · have := pt_len (seeW base s c).given x (seeV base s c)
      have hg := W.gl
      rw [seeW_given] at this
      show (pt (seeW base s c).given x (seeV base s c)).length ≤ _
      rw [seeW_given]
      omega
  | write c a =>
    have hv := evS_big W h.2
    refine ⟨W1.g, fun p hp => ?_, W1.t, W1.r, fun p hp => ?_, W1.rk, W1.gl, ?_, W1.tl, W1.rl⟩
    · rcases pt_mem hp with e | h
      · rw [e]; exact hv
      · exact W1.w p h
    · rcases pt_key hp with e | ⟨q, hq, e⟩
      · rw [e]
        show (c : Int).natAbs ≤ 100
        have := h.1
        omega
      · rw [← e]
        exact W.wk q hq
    · have := pt_len s.wrote (c : Int) (evS s.given a)
      have := W.wl
      show (pt s.wrote (c : Int) (evS s.given a)).length ≤ n + 1
      omega
  | lt x a =>
    have hv := evS_big W h
    refine ⟨fun p hp => ?_, W1.w, W1.t, W1.r, W1.wk, W1.rk, ?_, W1.wl, W1.tl, W1.rl⟩
    · rcases pt_mem hp with e | h
      · rw [e]; exact hv
      · exact W1.g p h
    · have := pt_len s.given x (evS s.given a)
      have := W.gl
      show (pt s.given x (evS s.given a)).length ≤ _
      omega
  | tell a =>
    have hv := evS_big W h
    refine ⟨W1.g, W1.w, fun i hi => ?_, W1.r, W1.wk, W1.rk, W1.gl, W1.wl, ?_, W1.rl⟩
    · rcases List.mem_append.mp hi with h | h
      · exact W1.t i h
      · rw [List.mem_singleton.mp h]; exact hv
    · show (s.spoke ++ [evS s.given a]).length ≤ n + 1
      have := W.tl
      simp
      omega
  | ite a p q => exact W1
  | inner p q => exact W1
  | out => exact W1
  | either p q => exact W1
  | retry => exact W1
theorem WB.back {n k : Nat} {s s' : Wk} (W : WB n s) (V : WB k s') (h : n ≤ k) : WB k ((opsW base).back s s') := by
  have W := W.mono h
  exact ⟨W.g, W.w, W.t, V.r, W.wk, V.rk, W.gl, W.wl, W.tl, V.rl⟩
mutual
theorem goS_WB {base : List Int} {m : Nat} (hb : baseOk base) (hm : m ≤ 10) : ∀ (st : Stp) (n : Nat) (s : Wk), WB n s → allS (okS m) okA st → WB (n + cntS st) (goS (opsW base) st s).1
  | .out, n, s, W, _ => W.mono (Nat.le_add_right _ _)
  | .retry, n, s, W, _ => W.mono (Nat.le_add_right _ _)
  | .read x c, n, s, W, h => W.prim (st := .read x c) hb h hm
  | .write c a, n, s, W, h => W.prim (st := .write c a) hb h hm
  | .lt x a, n, s, W, h => W.prim (st := .lt x a) hb h hm
  | .tell a, n, s, W, h => W.prim (st := .tell a) hb h hm
  | .ite a p q, n, s, W, h => by
    unfold goS
    split
    · exact (go_WB hb hm p n s W h.2.1).mono (by simp only [cntS]; omega)
    · exact (go_WB hb hm q n s W h.2.2).mono (by simp only [cntS]; omega)
  | .inner p q, n, s, W, h => by
    have V := go_WB hb hm p n s W h.1
    unfold goS alt
    split
    · refine (go_WB hb hm q (n + cnt p) _ (W.back V (Nat.le_add_right _ _)) h.2).mono (by simp only [cntS]; omega)
    · exact V.mono (by simp only [cntS]; omega)
  | .either p q, n, s, W, h => by
    have V := go_WB hb hm p n s W h.1
    unfold goS alt
    split
    · refine (go_WB hb hm q (n + cnt p) _ (W.back V (Nat.le_add_right _ _)) h.2).mono (by simp only [cntS]; omega)
    · exact V.mono (by simp only [cntS]; omega)
theorem go_WB {base : List Int} {m : Nat} (hb : baseOk base) (hm : m ≤ 10) : ∀ (p : List Stp) (n : Nat) (s : Wk), WB n s → okP m p → WB (n + cnt p) (go (opsW base) p s).1
  | [], n, s, W, _ => W
  | st :: r, n, s, W, h => by
    have V := goS_WB hb hm st n s W h.1
    unfold go
    cases e : goS (opsW base) st s with
    | mk s' l =>
      rw [e] at V
      cases l with
      | fin => exact (go_WB hb hm r (n + cntS st) s' V h.2).mono (by simp only [cnt]; omega)
      | out => exact V.mono (by simp only [cnt]; omega)
      | retry => exact V.mono (by simp only [cnt]; omega)
end
end Pk
-- ## PkReck
set_option Elab.async false
set_option linter.all false
set_option maxRecDepth 100000
set_option maxHeartbeats 4000000
namespace Pk
open PySem PySem.Spec PyProof.Rows L2
/-! ### tables in the heap -/
abbrev si (p : Str × Int) : Key × V := (Sum.inr p.1, V.int p.2)
theorem val_si (g : Giv) (x : Str) : valV (g.map si) (Sum.inr x) = (lk g x).map V.int := by
  induction g with
  | nil => rfl
  | cons p r ih =>
    by_cases e : p.1 = x
    · rw [List.map_cons, valV_pos (by show Sum.inr p.1 = _; rw [e])]
      simp [lk, List.find?_cons, e]
    · have h1 : valV (si p :: r.map si) (Sum.inr x) = valV (r.map si) (Sum.inr x) := by
        simp [valV, List.find?_cons, si, e]
      have h2 : lk (p :: r) x = lk r x := by simp [lk, List.find?_cons, e]
      rw [List.map_cons, h1, h2, ih]
theorem val_ii (g : List (Int × Int)) (k : Int) : valV (g.map ii) (Sum.inl k) = (lk g k).map V.int := by
  induction g with
  | nil => rfl
  | cons p r ih =>
    by_cases e : p.1 = k
    · rw [List.map_cons, valV_pos (by show Sum.inl p.1 = _; rw [e])]
      simp [lk, List.find?_cons, e]
    · have h1 : valV (ii p :: r.map ii) (Sum.inl k) = valV (r.map ii) (Sum.inl k) := by
        simp [valV, List.find?_cons, ii, e]
      have h2 : lk (p :: r) k = lk r k := by simp [lk, List.find?_cons, e]
      rw [List.map_cons, h1, h2, ih]
theorem put_si (g : Giv) (x : Str) (i : Int) : putK (g.map si) (Sum.inr x) (.int i) = (pt g x i).map si := by
  have e : ((g.map si).any fun kv => decide (kv.1 = Sum.inr x)) = (g.any fun kv => decide (kv.1 = x)) := by
    rw [List.any_map]
    congr 1
    funext p
    simp [si]
  unfold putK pt
  rw [e]
  split
  · rw [List.map_map, List.map_map]
    refine List.map_congr_left fun p _ => ?_
    by_cases e : p.1 = x
    · simp [si, e]
    · simp [si, e]
  · rw [List.map_append]
    rfl
theorem put_ii (g : List (Int × Int)) (k i : Int) : putK (g.map ii) (Sum.inl k) (.int i) = (pt g k i).map ii := by
  have e : ((g.map ii).any fun kv => decide (kv.1 = Sum.inl k)) = (g.any fun kv => decide (kv.1 = k)) := by
    rw [List.any_map]
    congr 1
    funext p
    simp [ii]
  unfold putK pt
  rw [e]
  split
  · rw [List.map_map, List.map_map]
    refine List.map_congr_left fun p _ => ?_
    by_cases e : p.1 = k
    · simp [ii, e]
    · simp [ii, e]
  · rw [List.map_append]
    rfl

theorem u1 {n : Nat} {A : Around} (h : Room n A) : A.units + 1 < cLine := by have := h.units; omega
/-! ### reckoned -/
abbrev N_reckoned : List Str := ["amount", "given", "word", "rest", "one", "other"]
theorem sc_reckoned : FnScope N_reckoned ["amount", "given"] (defScope s_reckoned) := ⟨rfl, rfl, rfl, by decide +kernel, rfl, by decide +kernel, by decide +kernel⟩
def spReck (n : Nat) : SpN := fun vs H Q => ∃ (a : Sm) (v : V) (d : Addr) (g : Giv), vs = [v, .ref d] ∧ IsSm H a v ∧ H d = some (.dK (g.map si)) ∧ sdep a < n ∧ ∀ H', Same H H' → Q (.int (evS g a)) H'
section
variable {P : Program} {w : World} {K : PySem.W.Frag} {mg : Str → Option Value} {base : Heap}
theorem ok_reckoned (F : Fd K mg "reckoned" s_reckoned ["amount", "given"]) : ∀ n, Cal P w K mg base n "reckoned" ["amount", "given"] (spReck n)
  | 0 => F.none fun vs H Q ⟨a, v, d, g, _, _, _, h, _⟩ => absurd h (Nat.not_lt_zero _)
  | n + 1 => by
    have C := ok_reckoned F n
    refine F.ok sc_reckoned (fun vs H Q ⟨a, v, d, g, h, _⟩ => by rw [h]; rfl) fun f cdv A outer s H vs Q E hr h => ?_
    obtain ⟨a, v, d, g, rfl, hI, hg, hd, q⟩ := h
    refine ⟨_, pss_cons (ps_asg (pv 0) (pg_star rfl (pgs_cons (pg_name (i := 2) sc_reckoned.nd rfl (.inl rfl)) (pgs_star (pg_name (i := 3) sc_reckoned.nd rfl (.inl rfl))))))
      (pss_cons (ps_if (pt_cmpR op_eq (pv 2) pe_str (nomark _)) (pss_one (ps_ret (pe_ix ix_list (pv 3) pe_int (fun _ _ => rfl)))) pss_nil)
      (pss_cons (ps_if (pt_cmpR op_eq (pv 2) pe_str (nomark _)) (pss_one (ps_ret (pe_dget2 (u1 hr) (pv 1) (pe_ix ix_list (pv 3) pe_int (fun _ _ => rfl)) pe_int ⟨rfl, rfl, rfl, rfl⟩))) pss_nil)
      (pss_cons (ps_par (i := 4) (j := 5) (by rfl) sc_reckoned.nd rfl rfl (by decide) rfl rfl (pa_cons (pe_cal C hr rfl (pa_cons (pe_ix ix_list (pv 3) pe_int (fun _ _ => rfl)) (pa_cons (pv 1) pa_nil))) (pa_cons (pe_cal C hr rfl (pa_cons (pe_ix ix_list (pv 3) pe_int (fun _ _ => rfl)) (pa_cons (pv 1) pa_nil))) pa_nil)) (by rfl))
      (pss_cons (ps_if (pt_cmpR op_eq (pv 2) pe_str (nomark _)) (pss_one (ps_ret (pe_ifExp (pt_cmpR op_lt (pv 4) (pv 5) (nomark _)) pe_int pe_int))) pss_nil)
      (pss_one (ps_ret (pe_ifExp (pt_cmpR op_eq (pv 2) pe_str (nomark _)) (pe_op op_add (pv 4) (pv 5)) (pe_op op_sub (pv 4) (pv 5))))))))), ?_⟩
    obtain ⟨t, as, rfl, ht, hlen⟩ := hI.open
    refine ⟨.ref t, rfl, t, _, as, rfl, SqT.of ht, by omega, fun l nl => ?_⟩
    have sl := same_upd (o := .lst as) nl
    have hl : upd H l (.lst as) l = some (.lst as) := upd_same
    generalize upd H l (.lst as) = H1 at sl hl
    refine ⟨_, _, rfl, _, _, rfl, rfl, ?_⟩
    refine ⟨_, rfl, rfl, _, rfl, ?_⟩
    rw [show (Str.ofString "num") = ksN .num from rfl, dec_ks]
    refine ite2 (fun c => ?_) (fun c => ?_)
    · cases a with
      | num i =>
        obtain ⟨t', e1, e2⟩ := hI
        cases e1
        obtain rfl := tup_tail ht e2
        exact ⟨_, rfl, l, _, 0, _, rfl, rfl, SqL.of hl, rfl, q H1 sl⟩
      | slot x => simp [ks] at c
      | bin o a b => cases o <;> simp [ks] at c
    · refine ⟨_, rfl, rfl, _, rfl, ?_⟩
      rw [show (Str.ofString "slot") = ksN .slot from rfl, dec_ks]
      refine ite2 (fun c2 => ?_) (fun c2 => ?_)
      · cases a with
        | num i => simp [ks] at c2
        | slot x =>
          obtain ⟨t', e1, e2⟩ := hI
          cases e1
          obtain rfl := tup_tail ht e2
          have hg1 := sl _ _ hg
          refine ⟨_, rfl, d, rfl, .inl ⟨_, .inl hg1⟩, _, rfl, l, _, 0, _, rfl, rfl, SqL.of hl, rfl, valV (g.map si) (Sum.inr x), DGet.k (k := Sum.inr x) hg1, ?_⟩
          have hq := q H1 sl
          rw [val_si]
          have : ((lk g x).map V.int).getD (.int 0) = .int (evS g (.slot x)) := by
            simp only [evS]
            cases lk g x <;> rfl
          rw [this]
          exact hq
        | bin o a b => cases o <;> simp [ks] at c2
      · cases a with
        | num i => simp [ks] at c
        | slot x => simp [ks] at c2
        | bin o a b =>
          obtain ⟨va, vb, ⟨t', e1, e2⟩, ha, hb⟩ := hI
          cases e1
          obtain rfl := tup_tail ht e2
          simp only [sdep] at hd
          refine ⟨_, rfl, l, _, 0, _, rfl, rfl, SqL.of hl, rfl, _, rfl, a, va, d, g, rfl, ha.mono (Same.tle sl), sl _ _ hg, by omega, fun H2 s2 => ?_⟩
          refine ⟨_, rfl, l, _, 1, _, rfl, rfl, SqL.of (s2 _ _ hl), rfl, _, rfl, b, vb, d, g, rfl, hb.mono (Same.tle (Same.trans sl s2)), s2 _ _ (sl _ _ hg), by omega, fun H3 s3 => ?_⟩
          have s03 := Same.trans (Same.trans sl s2) s3
          refine ⟨_, _, rfl, ?_⟩
          refine ⟨_, rfl, rfl, _, rfl, ?_⟩
          have hq := q H3 s03
          rw [show (Str.ofString "less") = ksN .less from rfl, dec_ks]
          refine ite2 (fun c3 => ?_) (fun c3 => ?_)
          · have eo : o = .less := by cases o <;> simp [ks] at c3 <;> rfl
            subst eo
            refine ⟨_, rfl, _, rfl, _, _, rfl, rfl, _, rfl, ?_⟩
            simp only [evS] at hq
            refine ite2 (fun c4 => ?_) (fun c4 => ?_)
            · rw [if_pos (of_decide_eq_true c4)] at hq
              exact hq
            · rw [if_neg (fun z => c4 (decide_eq_true z))] at hq
              exact hq
          · refine ⟨_, rfl, rfl, _, rfl, ?_⟩
            rw [show (Str.ofString "plus") = ksN .plus from rfl, dec_ks]
            refine ite2 (fun c4 => ?_) (fun c4 => ?_)
            · have eo : o = .plus := by cases o <;> simp [ks] at c4 <;> rfl
              subst eo
              exact ⟨_, rfl, _, rfl, _, _, rfl, rfl, hq⟩
            · have eo : o = .minus := by cases o <;> simp [ks] at c3 c4 <;> rfl
              subst eo
              exact ⟨_, rfl, _, rfl, _, _, rfl, rfl, hq⟩
end
end Pk
-- ## PkWalk
set_option Elab.async false
set_option linter.all false
set_option maxRecDepth 100000
set_option maxHeartbeats 4000000
namespace Pk
open PySem PySem.Spec PyProof.Rows L2
/-! ### methods by name; calls of a local name -/
section
variable (P : Program) (w : World) (K : PySem.W.Frag) (mg : Str → Option Value) (base : Heap)
/-- the method m of the class at C keeps its promise -/
structure MCal (C : Addr) (k : Nat) (m : Str) (ps : List Str) (sp : SpN) : Prop where
  ex : ∃ f fd, Meth K C m f ∧ Binds K fd ps [] ∧ FnOk P w K mg base CX0 k f fd ps sp.up
structure MD (C : Addr) (m qual : Str) (st : Stmt) (ps : List Str) : Prop where
  ex : ∃ f fd, Meth K C m f ∧ FunD K m qual (defArgs st) (defBody st) (defScope st) [] [] f fd ∧ Binds K fd ps []
end
section
variable {P : Program} {w : World} {K : PySem.W.Frag} {mg : Str → Option Value} {base : Heap} {k : Nat} {C : Addr} {m qual : Str} {ps : List Str} {sp : SpN} {st : Stmt}
theorem MCal.mono {j : Nat} (D : MCal P w K mg base C j m ps sp) (h : j ≤ k) : MCal P w K mg base C k m ps sp := by
  obtain ⟨f, fd, a, b, c⟩ := D.ex
  exact ⟨f, fd, a, b, c.mono h⟩
theorem MD.none (F : MD K C m qual st ps) (h : ∀ vs H Q, ¬ sp vs H Q) : MCal P w K mg base C k m ps sp := by
  obtain ⟨f, fd, a, b, c⟩ := F.ex
  exact ⟨f, fd, a, c, fun vs H Q E q => (h vs H Q q).elim, fun A outer s H args us vs Q E _ _ _ _ q => (h vs H Q q).elim⟩
theorem MD.ok {N : List Str} (F : MD K C m qual st ps) (S : FnScope N ps (defScope st)) (len : ∀ vs H Q, sp vs H Q → vs.length = ps.length)
    (hbody : ∀ (f : Addr) (cdv : Value) (A : Around) (outer : List Env) (s : Shared) (H : Hp) (vs : List V) (Q : VK) (E : XK), Room k (A.deeper (envOfC qual (defScope st) s.heap.objs.size f cdv)) → sp vs H Q →
      ∃ t, PSs (cxOf CX0 P w K mg base N qual (defScope st) f cdv A outer s H E).nox (defBody st) t ∧ t { nx := fun _ H' => Q .non H', rt := Q } (start N vs) H) : MCal P w K mg base C (k + 1) m ps sp := by
  obtain ⟨f, fd, a, b, c⟩ := F.ex
  refine ⟨f, fd, a, c, b.ok S (fun vs H Q E q => len vs H Q q) fun cdv A outer s H vs Q E hr q => ?_⟩
  obtain ⟨t, h, z⟩ := hbody f cdv A outer s H vs Q E hr q
  exact ⟨t, h.nox, z⟩
end
def tMCal (C : Addr) (m : Str) (sp : SpN) (ta : TE) (t : TA) : TE := fun σ H Q => ta σ H fun x H1 => ∃ a dx fs, x = .ref a ∧ H1 a = some (.ins C dx fs) ∧ fs.lookup m = none ∧ t σ H1 fun vs H2 => sp (x :: vs) H2 Q
section
variable {X : Cx} {k : Nat} {C : Addr} {m : Str} {ps : List Str} {sp : SpN} {o e : Expr} {es : List Expr} {ta : TE} {t : TA} {apos pos : Pos} {pl : Sem Bool}
theorem meth_up {C : Addr} {m : Str} {sp : SpN} {ta : TE} {t : TA} {σ : L2.St} {H : Hp} {Q : VK} (h : tMCal C m sp ta t σ H Q) (mono : ∀ (σ : L2.St) (H : Hp) (Q Q' : VK), Q = Q' → ta σ H Q → ta σ H Q') : tMeth C m sp.up [] E0 ta t σ H Q := by
  refine mono σ H _ _ ?_ h
  funext x H1
  apply propext
  refine exists_congr fun a => exists_congr fun dx => exists_congr fun fs => and_congr Iff.rfl (and_congr Iff.rfl (and_congr Iff.rfl ?_))
  have : (fun (vs : List V) (H2 : Hp) => sp (x :: vs) H2 Q) = fun vs H2 => sp.up (x :: (vs ++ [])) H2 Q E0 := by
    funext vs H2
    rw [List.append_nil]
  rw [this]
theorem pe_mcal (D : MCal X.prog X.w X.K X.mg X.base C k m ps sp) (c : Cls X.K C) (hr : Room k X.A) (he : PE X o ta) (ha : PA X (e :: es) t)
    (hst : starEach (e :: es) X.env = (false, eval e X.env) :: starEach es X.env := by rfl) (hpl : (backTo pos (starEach es X.env)).any (·.1) = false := by rfl)
    (ht : eval (.Call (.Attribute o m apos) (e :: es) [] pos) X.env = (do
      let ov ← eval o X.env
      standAt apos.atName
      let (f, first) ← holding [ov] (getMethod ov m pl)
      callWith pos f first (backTo pos (starEach (e :: es) X.env)) (backToKw pos (keywordEach [] X.env))) := by rfl) :
    PE X (.Call (.Attribute o m apos) (e :: es) [] pos) (tMCal C m sp ta t) := by
  obtain ⟨f, fd, a, b, d⟩ := D.ex
  exact ⟨fun pins s σ H Q I h => (pe_meth (dvs := []) (E := E0) (pl := pl) he c a d hr b .nil pass0 ha hst hpl ht).run pins s σ H Q I (meth_up h fun _ _ _ _ e z => e ▸ z)⟩
theorem pe_mcal0 (D : MCal X.prog X.w X.K X.mg X.base C k m ps sp) (c : Cls X.K C) (hr : Room k X.A) (he : PE X o ta)
    (ht : eval (.Call (.Attribute o m apos) [] [] pos) X.env = (do
      let ov ← eval o X.env
      standAt apos.atName
      let (f, first) ← holding [ov] (getMethod ov m pl)
      callWith pos f first (backTo pos (starEach [] X.env)) (backToKw pos (keywordEach [] X.env))) := by rfl) :
    PE X (.Call (.Attribute o m apos) [] [] pos) (tMCal C m sp ta tNil) := by
  obtain ⟨f, fd, a, b, d⟩ := D.ex
  exact ⟨fun pins s σ H Q I h => (pe_meth0 (dvs := []) (E := E0) (pl := pl) he c a d hr b .nil pass0 ht).run pins s σ H Q I (meth_up h fun _ _ _ _ e z => e ▸ z)⟩
end
/-- of several defs that the i-th slot may hold -/
structure Hld (P : Program) (w : World) (K : PySem.W.Frag) (mg : Str → Option Value) (base : Heap) (k : Nat) (f : Addr) (sp : SpN) : Prop where
  ex : ∃ (fd : FuncData) (ps : List Str), FnOk P w K mg base CX0 k f fd ps sp.up ∧ PySem.W.keepIn K (.ref f) = true ∧ Binds K fd ps []
def tCallR (i : Nat) (S : Addr → SpN → Prop) (t : TA) : TE := fun σ H Q => ∃ f sp, σ[i]? = some (some (.ref f)) ∧ S f sp ∧ t σ H fun vs H1 => sp vs H1 Q
theorem pe_callR {X : Cx} {k i : Nat} {x : Str} {p pos : Pos} {e : Expr} {es : List Expr} {t : TA} {S : Addr → SpN → Prop} (A : ∀ f sp, S f sp → Hld X.prog X.w X.K X.mg X.base k f sp) (hr : Room k X.A) (hN : X.N[i]? = some x) (hv : Vis X.env.scope x) (ha : PA X (e :: es) t)
    (hdb : (x == ("__debug__" : Str)) = false := by decide) (hcd : (x == ("__classdict__" : Str)) = false := by decide)
    (he : starEach (e :: es) X.env = (false, eval e X.env) :: starEach es X.env := by rfl) (hpl : (backTo pos (starEach es X.env)).any (·.1) = false := by rfl) : PE X (.Call (.Name x p) (e :: es) [] pos) (tCallR i S t) := by
  refine ⟨fun pins s σ H Q I ⟨f, sp, hs, hS, ht⟩ => ?_⟩
  obtain ⟨fd, ps, F, hk, hb⟩ := (A f sp hS).ex
  refine (pe_callL (i := i) (f := f) (dvs := []) (E := E0) F hr hN hv hk hb .nil pass0 ha hdb hcd he hpl).run pins s σ H Q I ⟨hs, ?_⟩
  have : (fun (vs : List V) (H1 : Hp) => sp vs H1 Q) = fun vs H1 => sp.up (vs ++ []) H1 Q E0 := by
    funext vs H1
    rw [List.append_nil]
  rw [← this]
  exact ht

/-! ### the walk in the heap -/
abbrev flds (ba gd wr sp sa : Addr) : List (Str × V) := [("base", .ref ba), ("given", .ref gd), ("wrote", .ref wr), ("spoke", .ref sp), ("saw", .ref sa)]
structure IsWk (K : PySem.W.Frag) (H : Hp) (C wk dx ba gd wr sp sa : Addr) (base : List Int) (s : Wk) : Prop where
  at_ : H wk = some (.ins C dx (flds ba gd wr sp sa))
  b : SqT K H ba (base.map V.int)
  g : H gd = some (.dK (s.given.map si))
  w : H wr = some (.dK (s.wrote.map ii))
  t : H sp = some (.tup (s.spoke.map V.int))
  r : H sa = some (.dK (s.saw.map ii))
  gw : gd ≠ wr
  gs : gd ≠ sa
  ws : wr ≠ sa
structure Mv (H H' : Hp) (wk gd wr sa gd' wr' : Addr) : Prop where
  but : ∀ b o, H b = some o → b ≠ wk → b ≠ gd → b ≠ wr → b ≠ sa → H' b = some o
  ext : ∀ b, H b ≠ none → H' b ≠ none
  g : gd' = gd ∨ H gd' = none
  w : wr' = wr ∨ H wr' = none
theorem Mv.refl (H : Hp) (wk gd wr sa : Addr) : Mv H H wk gd wr sa gd wr := ⟨fun _ _ h _ _ _ _ => h, fun _ h => h, .inl rfl, .inl rfl⟩
theorem Mv.of_same {H H' : Hp} (s : Same H H') (wk gd wr sa : Addr) : Mv H H' wk gd wr sa gd wr := ⟨fun _ _ h _ _ _ _ => s _ _ h, fun b h => by
  cases e : H b with
  | none => exact absurd e h
  | some o => rw [s _ _ e]; exact Option.some_ne_none o, .inl rfl, .inl rfl⟩
theorem Mv.trans {H H1 H2 : Hp} {wk gd wr sa gd1 wr1 gd2 wr2 : Addr} (a : Mv H H1 wk gd wr sa gd1 wr1) (b : Mv H1 H2 wk gd1 wr1 sa gd2 wr2) : Mv H H2 wk gd wr sa gd2 wr2 := by
  have back : ∀ x, H1 x = none → H x = none := fun x h => by
    cases e : H x with
    | none => rfl
    | some o => exact absurd h (a.ext x (by rw [e]; exact fun z => by cases z))
  refine ⟨fun x o h n1 n2 n3 n4 => b.but x o (a.but x o h n1 n2 n3 n4) n1 (fun z => ?_) (fun z => ?_) n4, fun x h => b.ext x (a.ext x h), ?_, ?_⟩
  · rcases a.g with e | e
    · exact n2 (z.trans e)
    · rw [← z, h] at e; cases e
  · rcases a.w with e | e
    · exact n3 (z.trans e)
    · rw [← z, h] at e; cases e
  · rcases b.g with e | e
    · rcases a.g with e2 | e2
      · exact .inl (e.trans e2)
      · exact .inr (by rw [e]; exact e2)
    · exact .inr (back _ e)
  · rcases b.w with e | e
    · rcases a.w with e2 | e2
      · exact .inl (e.trans e2)
      · exact .inr (by rw [e]; exact e2)
    · exact .inr (back _ e)
section
variable {K : PySem.W.Frag} {H H' : Hp} {C wk dx ba gd wr sp sa : Addr} {base : List Int} {s : Wk}
theorem IsWk.ne_tup (W : IsWk K H C wk dx ba gd wr sp sa base s) {b : Addr} {xs : List V} (h : H b = some (.tup xs)) : b ≠ wk ∧ b ≠ gd ∧ b ≠ wr ∧ b ≠ sa :=
  ⟨fun e => (by rw [e, W.at_] at h; cases h), fun e => (by rw [e, W.g] at h; cases h), fun e => (by rw [e, W.w] at h; cases h), fun e => (by rw [e, W.r] at h; cases h)⟩
theorem IsWk.tle (W : IsWk K H C wk dx ba gd wr sp sa base s) {gd' wr' : Addr} (M : Mv H H' wk gd wr sa gd' wr') : TLe H H' := fun b xs h => by
  obtain ⟨a1, a2, a3, a4⟩ := W.ne_tup h
  exact M.but b _ h a1 a2 a3 a4
theorem IsWk.sqT (W : IsWk K H C wk dx ba gd wr sp sa base s) {gd' wr' : Addr} (M : Mv H H' wk gd wr sa gd' wr') {b : Addr} {xs : List V} (h : SqT K H b xs) : SqT K H' b xs := by
  rcases h with (h | ⟨o, h⟩) | h
  · exact .inl (.inl (W.tle M b xs h))
  · refine .inl (.inr ⟨o, M.but b _ h (fun e => ?_) (fun e => ?_) (fun e => ?_) (fun e => ?_)⟩)
    · rw [e, W.at_] at h; cases h
    · rw [e, W.g] at h; cases h
    · rw [e, W.w] at h; cases h
    · rw [e, W.r] at h; cases h
  · exact .inr h
theorem IsWk.same (W : IsWk K H C wk dx ba gd wr sp sa base s) (e : Same H H') : IsWk K H' C wk dx ba gd wr sp sa base s :=
  ⟨e _ _ W.at_, Same.sqT e W.b, e _ _ W.g, e _ _ W.w, e _ _ W.t, e _ _ W.r, W.gw, W.gs, W.ws⟩
end
def leftN : Left → Str
  | .fin => "end"
  | .out => "out"
  | .retry => "retry"
theorem leftN_inj {a b : Left} (h : leftN a = leftN b) : a = b := by
  cases a <;> cases b <;> first | rfl | exact absurd h (by decide)
theorem dec_left (a b : Left) : decide (V.str (leftN a) = V.str (leftN b)) = decide (a = b) := by
  by_cases h : a = b
  · rw [h]; simp
  · rw [decide_eq_false h, decide_eq_false]
    exact fun e => h (leftN_inj (V.str.inj e))
end Pk
-- ## PkWalkM
set_option Elab.async false
set_option linter.all false
set_option maxRecDepth 100000
set_option maxHeartbeats 4000000
namespace Pk
open PySem PySem.Spec PyProof.Rows L2
def mrgF (g : Giv) (kvs : List (Str × Int)) : Giv := kvs.foldl (fun g p => pt g p.1 p.2) g
abbrev mrg (kvs : List (Str × Int)) : Giv := mrgF [] kvs
theorem merge_si : ∀ (kvs : List (Str × Int)) (g : Giv), mergeK (g.map si) (kvs.map si) = (mrgF g kvs).map si
  | [], g => rfl
  | p :: r, g => by
    show mergeK (putK (g.map si) (Sum.inr p.1) (.int p.2)) (r.map si) = _
    rw [put_si, merge_si r]
    rfl
theorem mrg_len : ∀ (kvs : List (Str × Int)) (g : Giv), (mrgF g kvs).length ≤ g.length + kvs.length
  | [], g => by simp [mrgF]
  | p :: r, g => by
    have := mrg_len r (pt g p.1 p.2)
    have := pt_len g p.1 p.2
    show (mrgF (pt g p.1 p.2) r).length ≤ _
    rw [List.length_cons]
    omega
theorem mrg_mem : ∀ {kvs : List (Str × Int)} {g : Giv} {q : Str × Int}, q ∈ mrgF g kvs → (∃ p ∈ kvs, q.2 = p.2) ∨ q ∈ g
  | [], g, q, h => .inr h
  | p :: r, g, q, h => by
    rcases mrg_mem (kvs := r) (g := pt g p.1 p.2) h with ⟨z, hz, e⟩ | h
    · exact .inl ⟨z, List.mem_cons_of_mem _ hz, e⟩
    · rcases pt_mem h with e | h
      · exact .inl ⟨p, List.mem_cons_self, e⟩
      · exact .inr h
theorem paired_si {K : PySem.W.Frag} {H : Hp} : ∀ {ps : List Addr} {kvs : List (Str × Int)}, Paired (fun p (kv : Str × Int) => SqT K H p [.str kv.1, .int kv.2]) ps kvs → Paired (fun p (kv : Key × V) => SqT K H p [kV kv.1, kv.2]) ps (kvs.map si)
  | _, _, .nil => .nil
  | _, _, .cons h t => .cons h (paired_si t)
theorem paired_imp {α β : Type} {F G : α → β → Prop} (h : ∀ a b, F a b → G a b) : ∀ {xs : List α} {ys : List β}, Paired F xs ys → Paired G xs ys
  | _, _, .nil => .nil
  | _, _, .cons a t => .cons (h _ _ a) (paired_imp h t)

abbrev N_winit : List Str := ["self", "cells", "slots"]
theorem sc_winit : FnScope N_winit ["self", "cells", "slots"] (defScope sw_init) := ⟨rfl, rfl, rfl, by decide +kernel, rfl, by decide +kernel, by decide +kernel⟩
abbrev N_wkept : List Str := ["self"]
theorem sc_wkept : FnScope N_wkept ["self"] (defScope sw_kept) := ⟨rfl, rfl, rfl, by decide +kernel, rfl, by decide +kernel, by decide +kernel⟩
abbrev N_wback : List Str := ["self", "kept", "given", "written", "told"]
theorem sc_wback : FnScope N_wback ["self", "kept"] (defScope sw_back_to) := ⟨rfl, rfl, rfl, by decide +kernel, rfl, by decide +kernel, by decide +kernel⟩
abbrev N_wseen : List Str := ["self", "cell"]
theorem sc_wseen : FnScope N_wseen ["self", "cell"] (defScope sw_seen) := ⟨rfl, rfl, rfl, by decide +kernel, rfl, by decide +kernel, by decide +kernel⟩
def spInit (K : PySem.W.Frag) (C : Addr) : SpN := fun vs H Q => ∃ (x dx ba sl : Addr) (base : List Int) (ps : List Addr) (kvs : List (Str × Int)), vs = [.ref x, .ref ba, .ref sl] ∧ H x = some (.ins C dx []) ∧ SqT K H ba (base.map V.int) ∧ TupD K H sl (ps.map V.ref) ∧ Paired (fun p (kv : Str × Int) => SqT K H p [.str kv.1, .int kv.2]) ps kvs ∧
  ∀ H' gd wr sp sa, (∀ b o, b ≠ x → H b = some o → H' b = some o) → H gd = none → H wr = none → H sa = none → IsWk K H' C x dx ba gd wr sp sa base ⟨mrg kvs, [], [], []⟩ → Q .non H'
def spKept (K : PySem.W.Frag) (C : Addr) : SpN := fun vs H Q => ∃ wk dx ba gd wr sp sa base s, vs = [.ref wk] ∧ IsWk K H C wk dx ba gd wr sp sa base s ∧
  ∀ H' t g' w', Same H H' → H g' = none → H w' = none → g' ≠ w' → H' g' = some (.dK (s.given.map si)) → H' w' = some (.dK (s.wrote.map ii)) → H' t = some (.tup [.ref g', .ref w', .ref sp]) → Q (.ref t) H'
def spBack (K : PySem.W.Frag) (C : Addr) : SpN := fun vs H Q => ∃ (wk dx ba gd wr sp sa : Addr) (base : List Int) (s : Wk) (t g' w' sp' : Addr) (s0 : Wk), vs = [.ref wk, .ref t] ∧ IsWk K H C wk dx ba gd wr sp sa base s ∧
  H t = some (.tup [.ref g', .ref w', .ref sp']) ∧ H g' = some (.dK (s0.given.map si)) ∧ H w' = some (.dK (s0.wrote.map ii)) ∧ H sp' = some (.tup (s0.spoke.map V.int)) ∧
  ∀ H' gd' wr', Mv H H' wk gd wr sa gd' wr' → IsWk K H' C wk dx ba gd' wr' sp' sa base ((opsW base).back s0 s) → Q .non H'
def spSeen (K : PySem.W.Frag) (C : Addr) : SpN := fun vs H Q => ∃ (wk dx ba gd wr sp sa : Addr) (base : List Int) (s : Wk) (c : Nat), vs = [.ref wk, .int (c : Int)] ∧ IsWk K H C wk dx ba gd wr sp sa base s ∧ c < base.length ∧ s.saw.length ≤ 2000 ∧
  ∀ H', Mv H H' wk gd wr sa gd wr → IsWk K H' C wk dx ba gd wr sp sa base (seeW base s c) → Q (.int (seeV base s c)) H'
section
variable {P : Program} {w : World} {K : PySem.W.Frag} {mg : Str → Option Value} {base : Heap} {C : Addr}
theorem TupD.keep {H H' : Hp} {a : Addr} {xs : List V} (h : TupD K H a xs) (e : ∀ o u, H a = some (.frz o u) → H' a = some (.frz o u)) : TupD K H' a xs := by
  rcases h with ⟨o, h, d⟩ | h
  · exact .inl ⟨o, e _ _ h, d⟩
  · exact .inr h
theorem ok_winit {f0 : Addr} {fd0 : FuncData} (c : Cls K C) (na : ∀ x : Str, x ∈ (["base", "given", "wrote", "spoke", "saw"] : List Str) → NoAttr K C x) (gd : mg "dict" = none)
    (F : FunD K "__init__" "Walk.__init__" (defArgs sw_init) (defBody sw_init) (defScope sw_init) [] [] f0 fd0) : FnOk P w K mg base CX0 1 f0 fd0 ["self", "cells", "slots"] (spInit K C).up := by
  refine F.ok (k := 0) sc_winit (fun vs H Q E ⟨x, dx, ba, sl, bs, ps, kvs, h, _⟩ => by rw [h]; rfl) fun cdv A outer s H vs Q E hr h => ?_
  obtain ⟨x, dx, ba, sl, bs, ps, kvs, rfl, hx, hb, hsl, hps, q⟩ := h
  refine ⟨_, (pss_cons (ps_fld (pv 0) (pv 1) rfl) (pss_cons (ps_fld (pv 0) (pe_callTy (call_dictT rfl) (by rfl) gd (by decide +kernel) (pa_cons (pv 2) pa_nil)) rfl)
    (pss_cons (ps_fld (pv 0) pe_dnewK rfl) (pss_cons (ps_fld (pv 0) (pe_tup pa_nil) rfl) (pss_one (ps_fld (pv 0) pe_dnewK rfl)))))).nox, ?_⟩
  have n1 := na "base" (by simp)
  have n2 := na "given" (by simp)
  have n3 := na "wrote" (by simp)
  have n4 := na "spoke" (by simp)
  have n5 := na "saw" (by simp)
  refine ⟨_, rfl, _, rfl, x, C, dx, [], rfl, hx, c, n1, by decide, ?_⟩
  have k1 : ∀ b o, b ≠ x → H b = some o → upd H x (.ins C dx [("base", .ref ba)]) b = some o := fun b o hb e => by rw [upd_ne hb]; exact e
  have x1 : upd H x (.ins C dx [("base", .ref ba)]) x = some (.ins C dx [("base", .ref ba)]) := upd_same
  show tSeq _ _ _ _ (upd H x (.ins C dx [("base", .ref ba)]))
  generalize upd H x (.ins C dx [("base", .ref ba)]) = H1 at k1 x1
  have f1 : ∀ p, H1 p = none → H p = none ∧ p ≠ x := fun p h => by
    have hpx : p ≠ x := fun e => by rw [e, x1] at h; cases h
    refine ⟨?_, hpx⟩
    cases e : H p with
    | none => rfl
    | some o => rw [k1 p o hpx e] at h; cases h
  have frz1 : ∀ {a : Addr} {xs : List V}, SqT K H a xs → SqT K H1 a xs := fun {a xs} h => by
    rcases h with (h | ⟨o, h⟩) | h
    · exact .inl (.inl (k1 _ _ (fun e => by rw [e, hx] at h; cases h) h))
    · exact .inl (.inr ⟨o, k1 _ _ (fun e => by rw [e, hx] at h; cases h) h⟩)
    · exact .inr h
  refine ⟨_, rfl, sl, ps, kvs.map si, rfl, hsl.keep fun o u h => k1 _ _ (fun e => by rw [e, hx] at h; cases h) h, paired_imp (fun a b h => frz1 h) (paired_si hps), fun g ng => ?_⟩
  rw [show ([] : List (Key × V)) = ([] : Giv).map si from rfl, merge_si]
  obtain ⟨ng0, ngx⟩ := f1 g ng
  refine ⟨_, rfl, x, C, dx, _, rfl, (upd_ne ngx.symm).trans x1, c, n2, by simp, ?_⟩
  -- the second attribute
  have k2 : ∀ b o, b ≠ x → H b = some o → upd (upd H1 g (.dK ((mrgF [] kvs).map si))) x (.ins C dx [("base", .ref ba), ("given", .ref g)]) b = some o := fun b o hb e => by
    rw [upd_ne hb, upd_ne (fun z => by rw [z, ng0] at e; cases e)]
    exact k1 b o hb e
  have x2 : upd (upd H1 g (.dK ((mrgF [] kvs).map si))) x (.ins C dx [("base", .ref ba), ("given", .ref g)]) x = some (.ins C dx [("base", .ref ba), ("given", .ref g)]) := upd_same
  have g2 : upd (upd H1 g (.dK ((mrgF [] kvs).map si))) x (.ins C dx [("base", .ref ba), ("given", .ref g)]) g = some (.dK ((mrgF [] kvs).map si)) := by rw [upd_ne ngx, upd_same]
  show tSeq _ _ _ _ (upd (upd H1 g (.dK ((mrgF [] kvs).map si))) x (.ins C dx [("base", .ref ba), ("given", .ref g)]))
  generalize upd (upd H1 g (.dK ((mrgF [] kvs).map si))) x (.ins C dx [("base", .ref ba), ("given", .ref g)]) = H2 at k2 x2 g2
  have f2 : ∀ p, H2 p = none → H p = none ∧ p ≠ x ∧ p ≠ g := fun p h => by
    have hpx : p ≠ x := fun e => by rw [e, x2] at h; cases h
    refine ⟨?_, hpx, fun e => by rw [e, g2] at h; cases h⟩
    cases e : H p with
    | none => rfl
    | some o => rw [k2 p o hpx e] at h; cases h
  intro wr nw
  obtain ⟨nw0, nwx, nwg⟩ := f2 wr nw
  refine ⟨_, rfl, x, C, dx, _, rfl, (upd_ne nwx.symm).trans x2, c, n3, by simp, ?_⟩
  have k3 : ∀ b o, b ≠ x → H b = some o → upd (upd H2 wr (.dK [])) x (.ins C dx [("base", .ref ba), ("given", .ref g), ("wrote", .ref wr)]) b = some o := fun b o hb e => by
    rw [upd_ne hb, upd_ne (fun z => by rw [z, nw0] at e; cases e)]
    exact k2 b o hb e
  have x3 : upd (upd H2 wr (.dK [])) x (.ins C dx [("base", .ref ba), ("given", .ref g), ("wrote", .ref wr)]) x = some (.ins C dx [("base", .ref ba), ("given", .ref g), ("wrote", .ref wr)]) := upd_same
  have g3 : upd (upd H2 wr (.dK [])) x (.ins C dx [("base", .ref ba), ("given", .ref g), ("wrote", .ref wr)]) g = some (.dK ((mrgF [] kvs).map si)) := by rw [upd_ne ngx, upd_ne nwg.symm]; exact g2
  have w3 : upd (upd H2 wr (.dK [])) x (.ins C dx [("base", .ref ba), ("given", .ref g), ("wrote", .ref wr)]) wr = some (.dK []) := by rw [upd_ne nwx, upd_same]
  show tSeq _ _ _ _ (upd (upd H2 wr (.dK [])) x (.ins C dx [("base", .ref ba), ("given", .ref g), ("wrote", .ref wr)]))
  generalize upd (upd H2 wr (.dK [])) x (.ins C dx [("base", .ref ba), ("given", .ref g), ("wrote", .ref wr)]) = H3 at k3 x3 g3 w3
  have f3 : ∀ p, H3 p = none → H p = none ∧ p ≠ x ∧ p ≠ g ∧ p ≠ wr := fun p h => by
    have hpx : p ≠ x := fun e => by rw [e, x3] at h; cases h
    refine ⟨?_, hpx, fun e => (by rw [e, g3] at h; cases h), fun e => (by rw [e, w3] at h; cases h)⟩
    cases e : H p with
    | none => rfl
    | some o => rw [k3 p o hpx e] at h; cases h
  refine ⟨Nat.zero_le _, fun sp nsp => ?_⟩
  obtain ⟨nsp0, nspx, nspg, nspw⟩ := f3 sp nsp
  refine ⟨_, rfl, x, C, dx, _, rfl, (upd_ne nspx.symm).trans x3, c, n4, by simp, ?_⟩
  have k4 : ∀ b o, b ≠ x → H b = some o → upd (upd H3 sp (.tup [])) x (.ins C dx [("base", .ref ba), ("given", .ref g), ("wrote", .ref wr), ("spoke", .ref sp)]) b = some o := fun b o hb e => by
    rw [upd_ne hb, upd_ne (fun z => by rw [z, nsp0] at e; cases e)]
    exact k3 b o hb e
  have x4 : upd (upd H3 sp (.tup [])) x (.ins C dx [("base", .ref ba), ("given", .ref g), ("wrote", .ref wr), ("spoke", .ref sp)]) x = some (.ins C dx [("base", .ref ba), ("given", .ref g), ("wrote", .ref wr), ("spoke", .ref sp)]) := upd_same
  have g4 : upd (upd H3 sp (.tup [])) x (.ins C dx [("base", .ref ba), ("given", .ref g), ("wrote", .ref wr), ("spoke", .ref sp)]) g = some (.dK ((mrgF [] kvs).map si)) := by rw [upd_ne ngx, upd_ne nspg.symm]; exact g3
  have w4 : upd (upd H3 sp (.tup [])) x (.ins C dx [("base", .ref ba), ("given", .ref g), ("wrote", .ref wr), ("spoke", .ref sp)]) wr = some (.dK []) := by rw [upd_ne nwx, upd_ne nspw.symm]; exact w3
  have t4 : upd (upd H3 sp (.tup [])) x (.ins C dx [("base", .ref ba), ("given", .ref g), ("wrote", .ref wr), ("spoke", .ref sp)]) sp = some (.tup []) := by rw [upd_ne nspx, upd_same]
  show sFld K (tVar 0) tDNewK "saw" { nx := fun _ H' => Q .non H', rt := Q } _ (upd (upd H3 sp (.tup [])) x (.ins C dx [("base", .ref ba), ("given", .ref g), ("wrote", .ref wr), ("spoke", .ref sp)]))
  generalize upd (upd H3 sp (.tup [])) x (.ins C dx [("base", .ref ba), ("given", .ref g), ("wrote", .ref wr), ("spoke", .ref sp)]) = H4 at k4 x4 g4 w4 t4
  have f4 : ∀ p, H4 p = none → H p = none ∧ p ≠ x ∧ p ≠ g ∧ p ≠ wr ∧ p ≠ sp := fun p h => by
    have hpx : p ≠ x := fun e => by rw [e, x4] at h; cases h
    refine ⟨?_, hpx, fun e => (by rw [e, g4] at h; cases h), fun e => (by rw [e, w4] at h; cases h), fun e => (by rw [e, t4] at h; cases h)⟩
    cases e : H p with
    | none => rfl
    | some o => rw [k4 p o hpx e] at h; cases h
  intro sa nsa
  obtain ⟨nsa0, nsax, nsag, nsaw, nsat⟩ := f4 sa nsa
  refine ⟨_, rfl, x, C, dx, _, rfl, (upd_ne nsax.symm).trans x4, c, n5, by simp, ?_⟩
  have k5 : ∀ b o, b ≠ x → H b = some o → upd (upd H4 sa (.dK [])) x (.ins C dx (flds ba g wr sp sa)) b = some o := fun b o hb e => by
    rw [upd_ne hb, upd_ne (fun z => by rw [z, nsa0] at e; cases e)]
    exact k4 b o hb e
  refine q _ g wr sp sa k5 ng0 nw0 nsa0 ⟨upd_same, ?_, ?_, ?_, ?_, ?_, nwg.symm, nsag.symm, nsaw.symm⟩
  · rcases hb with (h | ⟨o, h⟩) | h
    · exact .inl (.inl (k5 _ _ (fun e => by rw [e, hx] at h; cases h) h))
    · exact .inl (.inr ⟨o, k5 _ _ (fun e => by rw [e, hx] at h; cases h) h⟩)
    · exact .inr h
  · show upd (upd H4 sa (.dK [])) x _ g = _
    rw [upd_ne ngx, upd_ne nsag.symm]
    exact g4
  · show upd (upd H4 sa (.dK [])) x _ wr = _
    rw [upd_ne nwx, upd_ne nsaw.symm]
    exact w4
  · show upd (upd H4 sa (.dK [])) x _ sp = _
    rw [upd_ne nspx, upd_ne nsat.symm]
    exact t4
  · show upd (upd H4 sa (.dK [])) x _ sa = _
    rw [upd_ne nsax, upd_same]
    rfl
theorem ok_wkept (c : Cls K C) (na : ∀ x : Str, x ∈ (["base", "given", "wrote", "spoke", "saw"] : List Str) → NoAttr K C x) (gd : mg "dict" = none) (F : MD K C "kept" "Walk.kept" sw_kept ["self"]) : MCal P w K mg base C 1 "kept" ["self"] (spKept K C) := by
  refine F.ok (k := 0) sc_wkept (fun vs H Q ⟨wk, dx, ba, g, wr, sp, sa, bs, s, h, _⟩ => by rw [h]; rfl) fun f cdv A outer s0 H vs Q E hr h => ?_
  obtain ⟨wk, dx, ba, g, wr, sp, sa, bs, s, rfl, W, q⟩ := h
  refine ⟨_, pss_one (ps_ret (pe_tup (pa_cons (pe_callTy call_dictD (by rfl) gd (by decide +kernel) (pa_cons (pe_fld (pv 0) rfl) pa_nil)) (pa_cons (pe_callTy call_dictD (by rfl) gd (by decide +kernel) (pa_cons (pe_fld (pv 0) rfl) pa_nil)) (pa_cons (pe_fld (pv 0) rfl) pa_nil))))), ?_⟩
  have n2 := na "given" (by simp)
  have n3 := na "wrote" (by simp)
  have n4 := na "spoke" (by simp)
  refine ⟨_, rfl, wk, C, dx, _, .ref g, rfl, W.at_, c, n2, rfl, g, _, rfl, .inl W.g, fun g' ng => ?_⟩
  have s1 := same_upd (o := .dK (s.given.map si)) ng
  have W1 := W.same s1
  have g1 : upd H g' (.dK (s.given.map si)) g' = some (.dK (s.given.map si)) := upd_same
  generalize upd H g' (.dK (s.given.map si)) = H1 at s1 W1 g1
  refine ⟨_, rfl, wk, C, dx, _, .ref wr, rfl, W1.at_, c, n3, rfl, wr, _, rfl, .inl W1.w, fun w' nw => ?_⟩
  have s2 := same_upd (o := .dK (s.wrote.map ii)) nw
  have W2 := W1.same s2
  have w2 : upd H1 w' (.dK (s.wrote.map ii)) w' = some (.dK (s.wrote.map ii)) := upd_same
  have g2 := s2 _ _ g1
  have hne : g' ≠ w' := fun e => by rw [← e, g1] at nw; cases nw
  have nw0 : H w' = none := by
    cases e : H w' with
    | none => rfl
    | some o => rw [s1 _ _ e] at nw; cases nw
  generalize upd H1 w' (.dK (s.wrote.map ii)) = H2 at s2 W2 w2 g2
  refine ⟨_, rfl, wk, C, dx, _, .ref sp, rfl, W2.at_, c, n4, rfl, by show 3 ≤ sizeLine; decide, fun t nt => ?_⟩
  have s3 := same_upd (o := .tup [.ref g', .ref w', .ref sp]) nt
  exact q _ t g' w' (Same.trans s1 (Same.trans s2 s3)) ng nw0 hne (s3 _ _ g2) (s3 _ _ w2) upd_same
theorem ok_wseen (c : Cls K C) (na : ∀ x : Str, x ∈ (["base", "given", "wrote", "spoke", "saw"] : List Str) → NoAttr K C x) (F : MD K C "seen" "Walk.seen" sw_seen ["self", "cell"]) : MCal P w K mg base C 1 "seen" ["self", "cell"] (spSeen K C) := by
  refine F.ok (k := 0) sc_wseen (fun vs H Q ⟨wk, dx, ba, g, wr, sp, sa, bs, s, cc, h, _⟩ => by rw [h]; rfl) fun f cdv A outer s0 H vs Q E hr h => ?_
  obtain ⟨wk, dx, ba, g, wr, sp, sa, bs, s, cc, rfl, W, hc, hl, q⟩ := h
  refine ⟨_, pss_cons (ps_if (pt_cmp (pc_din (u1 hr) (pv 1) (pe_fld (pv 0) rfl))) (pss_one (ps_ret (pe_dget (u1 hr) (pe_fld (pv 0) rfl) (pv 1) (fun _ _ => rfl)))) pss_nil)
    (pss_one (ps_ret (pe_dsetd (pe_fld (pv 0) rfl) (pv 1) (pe_ix ix_tup (pe_fld (pv 0) rfl) (pv 1) (fun _ _ => rfl)) ⟨rfl, rfl, rfl, rfl⟩))), ?_⟩
  have n1 := na "base" (by simp)
  have n3 := na "wrote" (by simp)
  have n5 := na "saw" (by simp)
  refine ⟨_, rfl, _, rfl, wk, C, dx, _, .ref wr, rfl, W.at_, c, n3, rfl, wr, valV (s.wrote.map ii) (Sum.inl (cc : Int)), rfl, DGet.k (k := Sum.inl (cc : Int)) W.w, _, rfl, ?_⟩
  rw [val_ii]
  cases hw : lk s.wrote (cc : Int) with
  | some v =>
    refine ⟨_, rfl, wk, C, dx, _, .ref wr, rfl, W.at_, c, n3, rfl, _, rfl, wr, .int v, rfl, ?_, ?_⟩
    · have := DGet.k (k := Sum.inl (cc : Int)) W.w
      rw [val_ii, hw] at this
      exact this
    · have e1 : seeV bs s cc = v := by unfold seeV; rw [hw]
      have e2 : seeW bs s cc = s := by unfold seeW; rw [hw]
      have := q H (Mv.refl ..) (by rw [e2]; exact W)
      rw [e1] at this
      exact this
  | none =>
    refine ⟨_, rfl, wk, C, dx, _, .ref sa, rfl, W.at_, c, n5, rfl, sa, rfl, .inl ⟨_, .inl W.r⟩, _, rfl, _, rfl, wk, C, dx, _, .ref ba, rfl, W.at_, c, n1, rfl, _, rfl, ba, bs.map V.int, (cc : Int), .int (bs.getD cc 0), rfl, rfl, W.b, ?_, s.saw.map ii, Sum.inl (cc : Int), W.r, rfl, by rw [List.length_map, sizeLine_eq]; omega, fun v hv => ?_, fun hv => ?_⟩
    · refine atI_nat ?_
      rw [List.getElem?_map, List.getD_eq_getElem?_getD, List.getElem?_eq_getElem hc]
      rfl
    · rw [val_ii] at hv
      obtain ⟨i, hi, rfl⟩ := Option.map_eq_some_iff.mp hv
      have e1 : seeV bs s cc = i := by unfold seeV; rw [hw, hi]; rfl
      have e2 : seeW bs s cc = s := by unfold seeW; rw [hw, hi]
      have := q H (Mv.refl ..) (by rw [e2]; exact W)
      rw [e1] at this
      exact this
    · rw [val_ii] at hv
      have hs : lk s.saw (cc : Int) = none := by
        cases e : lk s.saw (cc : Int) with
        | none => rfl
        | some i => rw [e] at hv; cases hv
      have e1 : seeV bs s cc = bs.getD cc 0 := by unfold seeV; rw [hw, hs]; rfl
      have e2 : seeW bs s cc = { s with saw := pt s.saw (cc : Int) (bs.getD cc 0) } := by unfold seeW; rw [hw, hs]
      rw [put_ii]
      have ob : ∀ b o, H b = some o → b ≠ sa → upd H sa (.dK ((pt s.saw (cc : Int) (bs.getD cc 0)).map ii)) b = some o := fun b o e hb => by rw [upd_ne hb]; exact e
      have M : Mv H (upd H sa (.dK ((pt s.saw (cc : Int) (bs.getD cc 0)).map ii))) wk g wr sa g wr := ⟨fun b o e _ _ _ h4 => ob b o e h4, fun b h => by
        by_cases e : b = sa
        · rw [e, upd_same]; exact Option.some_ne_none _
        · rw [upd_ne e]; exact h, .inl rfl, .inl rfl⟩
      have := q _ M (by
        rw [e2]
        exact ⟨ob _ _ W.at_ (fun e => by have := W.at_; rw [e, W.r] at this; cases this), W.sqT M W.b, ob _ _ W.g W.gs, ob _ _ W.w W.ws, ob _ _ W.t (W.ne_tup W.t).2.2.2, upd_same, W.gw, W.gs, W.ws⟩)
      rw [e1] at this
      exact this
theorem ok_wback (c : Cls K C) (na : ∀ x : Str, x ∈ (["base", "given", "wrote", "spoke", "saw"] : List Str) → NoAttr K C x) (gd : mg "dict" = none) (F : MD K C "back_to" "Walk.back_to" sw_back_to ["self", "kept"]) : MCal P w K mg base C 1 "back_to" ["self", "kept"] (spBack K C) := by
  refine F.ok (k := 0) sc_wback (fun vs H Q ⟨wk, dx, ba, g, wr, sp, sa, bs, s, t, g', w', sp', s0, h, _⟩ => by rw [h]; rfl) fun f cdv A outer s9 H vs Q E hr h => ?_
  obtain ⟨wk, dx, ba, g, wr, sp, sa, bs, s, t, g', w', sp', s0, rfl, W, ht, hg, hw, hsp, q⟩ := h
  refine ⟨_, pss_cons (ps_asg (pv 1) (pg_tup rfl (pgs_cons (pg_name (i := 2) sc_wback.nd rfl (.inl rfl)) (pgs_cons (pg_name (i := 3) sc_wback.nd rfl (.inl rfl)) (pgs_cons (pg_name (i := 4) sc_wback.nd rfl (.inl rfl)) pgs_nil)))))
    (pss_one (ps_asg (pe_tup (pa_cons (pe_callTy call_dictD (by rfl) gd (by decide +kernel) (pa_cons (pv 2) pa_nil)) (pa_cons (pe_callTy call_dictD (by rfl) gd (by decide +kernel) (pa_cons (pv 3) pa_nil)) (pa_cons (pv 4) pa_nil))))
      (pg_tup rfl (pgs_cons (pg_fld (pv 0)) (pgs_cons (pg_fld (pv 0)) (pgs_cons (pg_fld (pv 0)) pgs_nil)))))), ?_⟩
  have n2 := na "given" (by simp)
  have n3 := na "wrote" (by simp)
  have n4 := na "spoke" (by simp)
  refine ⟨_, rfl, t, _, rfl, SqT.of ht, rfl, _, _, rfl, _, _, rfl, _, _, rfl, rfl, ?_⟩
  refine ⟨_, rfl, g', _, rfl, .inl hg, fun p1 np1 => ?_⟩
  have e1 := same_upd (o := .dK (s0.given.map si)) np1
  have W1 := W.same e1
  have a1 : upd H p1 (.dK (s0.given.map si)) p1 = some (.dK (s0.given.map si)) := upd_same
  have hw1 := e1 _ _ hw
  have hsp1 := e1 _ _ hsp
  generalize upd H p1 (.dK (s0.given.map si)) = H1 at e1 W1 a1 hw1 hsp1
  refine ⟨_, rfl, w', _, rfl, .inl hw1, fun p2 np2 => ?_⟩
  have e2 := same_upd (o := .dK (s0.wrote.map ii)) np2
  have W2 := W1.same e2
  have a2 := e2 _ _ a1
  have b2 : upd H1 p2 (.dK (s0.wrote.map ii)) p2 = some (.dK (s0.wrote.map ii)) := upd_same
  have hsp2 := e2 _ _ hsp1
  have np20 : H p2 = none := by
    cases e : H p2 with
    | none => rfl
    | some o => rw [e1 _ _ e] at np2; cases np2
  have h12 : p1 ≠ p2 := fun e => by rw [← e, a1] at np2; cases np2
  have h1w : p1 ≠ wk := fun e => by have := W.at_; rw [← e, np1] at this; cases this
  have h1s : p1 ≠ sa := fun e => by have := W.r; rw [← e, np1] at this; cases this
  have h2w : p2 ≠ wk := fun e => by have := W.at_; rw [← e, np20] at this; cases this
  have h2s : p2 ≠ sa := fun e => by have := W.r; rw [← e, np20] at this; cases this
  generalize upd H1 p2 (.dK (s0.wrote.map ii)) = H2 at e2 W2 a2 b2 hsp2
  refine ⟨_, rfl, by show 3 ≤ sizeLine; decide, fun tt nt => ?_⟩
  have e3 := same_upd (o := .tup [.ref p1, .ref p2, .ref sp']) nt
  have W3 := W2.same e3
  have a3 := e3 _ _ a2
  have b3 := e3 _ _ b2
  have hsp3 := e3 _ _ hsp2
  have t3 : upd H2 tt (.tup [.ref p1, .ref p2, .ref sp']) tt = some (.tup [.ref p1, .ref p2, .ref sp']) := upd_same
  generalize upd H2 tt (.tup [.ref p1, .ref p2, .ref sp']) = H3 at e3 W3 a3 b3 hsp3 t3
  have s03 := Same.trans e1 (Same.trans e2 e3)
  refine ⟨tt, _, rfl, SqT.of t3, rfl, _, _, rfl, _, rfl, wk, C, dx, _, rfl, W3.at_, c, n2, by simp, ?_⟩
  refine ⟨_, _, rfl, _, rfl, wk, C, dx, _, rfl, upd_same, c, n3, by show 5 < 1000; omega, ?_⟩
  refine ⟨_, _, rfl, _, rfl, wk, C, dx, _, rfl, upd_same, c, n4, by show 5 < 1000; omega, rfl, ?_⟩
  have ob : ∀ b o, H3 b = some o → b ≠ wk → upd (upd (upd H3 wk (.ins C dx (putF "given" (.ref p1) (flds ba g wr sp sa)))) wk (.ins C dx (putF "wrote" (.ref p2) (putF "given" (.ref p1) (flds ba g wr sp sa))))) wk (.ins C dx (putF "spoke" (.ref sp') (putF "wrote" (.ref p2) (putF "given" (.ref p1) (flds ba g wr sp sa))))) b = some o := fun b o h hb => by
    rw [upd_ne hb, upd_ne hb, upd_ne hb]
    exact h
  have M : Mv H (upd (upd (upd H3 wk (.ins C dx (putF "given" (.ref p1) (flds ba g wr sp sa)))) wk (.ins C dx (putF "wrote" (.ref p2) (putF "given" (.ref p1) (flds ba g wr sp sa))))) wk (.ins C dx (putF "spoke" (.ref sp') (putF "wrote" (.ref p2) (putF "given" (.ref p1) (flds ba g wr sp sa)))))) wk g wr sa p1 p2 := by
    refine ⟨fun b o h h1 _ _ _ => ob b o (s03 _ _ h) h1, fun b h => ?_, .inr np1, .inr np20⟩
    by_cases e : b = wk
    · rw [e, upd_same]; exact Option.some_ne_none _
    · cases e2 : H b with
      | none => exact absurd e2 h
      | some o => rw [ob b o (s03 _ _ e2) e]; exact Option.some_ne_none _
  exact q _ p1 p2 M ⟨upd_same, W.sqT M W.b, ob _ _ a3 h1w, ob _ _ b3 h2w, ob _ _ hsp3 (fun e => by rw [e, W3.at_] at hsp3; cases hsp3), ob _ _ W3.r (fun e => by have := W3.r; rw [e, W3.at_] at this; cases this), h12, h1s, h2s⟩
end
end Pk
-- ## PkDo
set_option Elab.async false
set_option linter.all false
set_option maxRecDepth 100000
set_option maxHeartbeats 4000000
namespace Pk
open PySem PySem.Spec PyProof.Rows L2
/-- what stands ahead of a walk: c steps at most -/
structure Pre (K : PySem.W.Frag) (H : Hp) (C wk dx ba gd wr sp sa : Addr) (base : List Int) (s : Wk) (c : Nat) : Prop where
  W : IsWk K H C wk dx ba gd wr sp sa base s
  bo : baseOk base
  wb : ∃ m, WB m s ∧ m + c ≤ 1000
def spGo (K : PySem.W.Frag) (C : Addr) (n : Nat) : SpN := fun vs H Q => ∃ (wk dx ba gd wr sp sa : Addr) (base : List Int) (s : Wk) (p : List Stp) (v : V), vs = [.ref wk, v] ∧ Pre K H C wk dx ba gd wr sp sa base s (cnt p) ∧ IsPr H p v ∧ dep0 p < n ∧ okP base.length p ∧
  ∀ H' gd' wr' sp', Mv H H' wk gd wr sa gd' wr' → IsWk K H' C wk dx ba gd' wr' sp' sa base (go (opsW base) p s).1 → Q (.str (leftN (go (opsW base) p s).2)) H'
def spDo (K : PySem.W.Frag) (C : Addr) (n : Nat) (k : Kw) : SpN := fun vs H Q => ∃ (wk dx ba gd wr sp sa l t : Addr) (as : List V) (base : List Int) (s : Wk) (st : Stp), vs = [.ref wk, .ref l] ∧ kw st = k ∧ H l = some (.lst as) ∧ IsSt H st (.ref t) ∧ H t = some (.tup (.str (wrd st) :: as)) ∧
  Pre K H C wk dx ba gd wr sp sa base s (cntS st) ∧ depS st ≤ n ∧ allS (okS base.length) okA st ∧
  ∀ H' gd' wr' sp', Mv H H' wk gd wr sa gd' wr' → IsWk K H' C wk dx ba gd' wr' sp' sa base (goS (opsW base) st s).1 → Q (.str (leftN (goS (opsW base) st s).2)) H'
section
variable {K : PySem.W.Frag} {H : Hp} {C wk dx ba gd wr sp sa : Addr} {base : List Int} {s : Wk}
theorem mv_upd {x : Addr} {o o' : HO} (h : H x = some o') (hx : x = wk ∨ x = gd ∨ x = wr ∨ x = sa) : Mv H (upd H x o) wk gd wr sa gd wr := by
  refine ⟨fun b ob hb h1 h2 h3 h4 => ?_, fun b hb => ?_, .inl rfl, .inl rfl⟩
  · rw [upd_ne (fun e => by rcases hx with z | z | z | z <;> simp_all)]
    exact hb
  · by_cases e : b = x
    · rw [e, upd_same]; exact Option.some_ne_none _
    · rw [upd_ne e]; exact hb
theorem IsWk.putG (W : IsWk K H C wk dx ba gd wr sp sa base s) (x : Str) (i : Int) : Mv H (upd H gd (.dK ((pt s.given x i).map si))) wk gd wr sa gd wr ∧ IsWk K (upd H gd (.dK ((pt s.given x i).map si))) C wk dx ba gd wr sp sa base { s with given := pt s.given x i } := by
  have M : Mv H (upd H gd (.dK ((pt s.given x i).map si))) wk gd wr sa gd wr := mv_upd W.g (.inr (.inl rfl))
  exact ⟨M, by rw [upd_ne (fun e => by have := W.at_; rw [e, W.g] at this; cases this)]; exact W.at_, W.sqT M W.b, upd_same, by rw [upd_ne W.gw.symm]; exact W.w, W.tle M _ _ W.t, by rw [upd_ne W.gs.symm]; exact W.r, W.gw, W.gs, W.ws⟩
theorem IsWk.putW (W : IsWk K H C wk dx ba gd wr sp sa base s) (c i : Int) : Mv H (upd H wr (.dK ((pt s.wrote c i).map ii))) wk gd wr sa gd wr ∧ IsWk K (upd H wr (.dK ((pt s.wrote c i).map ii))) C wk dx ba gd wr sp sa base { s with wrote := pt s.wrote c i } := by
  have M : Mv H (upd H wr (.dK ((pt s.wrote c i).map ii))) wk gd wr sa gd wr := mv_upd W.w (.inr (.inr (.inl rfl)))
  exact ⟨M, by rw [upd_ne (fun e => by have := W.at_; rw [e, W.w] at this; cases this)]; exact W.at_, W.sqT M W.b, by rw [upd_ne W.gw]; exact W.g, upd_same, W.tle M _ _ W.t, by rw [upd_ne W.ws.symm]; exact W.r, W.gw, W.gs, W.ws⟩
theorem IsWk.putT (W : IsWk K H C wk dx ba gd wr sp sa base s) {sp' : Addr} {ts : List Int} (h : H sp' = some (.tup (ts.map V.int))) : Mv H (upd H wk (.ins C dx (flds ba gd wr sp' sa))) wk gd wr sa gd wr ∧ IsWk K (upd H wk (.ins C dx (flds ba gd wr sp' sa))) C wk dx ba gd wr sp' sa base { s with spoke := ts } := by
  have M : Mv H (upd H wk (.ins C dx (flds ba gd wr sp' sa))) wk gd wr sa gd wr := mv_upd W.at_ (.inl rfl)
  exact ⟨M, upd_same, W.sqT M W.b, by rw [upd_ne (fun e => by have := W.at_; rw [← e, W.g] at this; cases this)]; exact W.g, by rw [upd_ne (fun e => by have := W.at_; rw [← e, W.w] at this; cases this)]; exact W.w, W.tle M _ _ h, by rw [upd_ne (fun e => by have := W.at_; rw [← e, W.r] at this; cases this)]; exact W.r, W.gw, W.gs, W.ws⟩
theorem Pre.same {H' : Hp} {c : Nat} (p : Pre K H C wk dx ba gd wr sp sa base s c) (e : Same H H') : Pre K H' C wk dx ba gd wr sp sa base s c := ⟨p.W.same e, p.bo, p.wb⟩
end
abbrev N_do_read : List Str := ["walk", "rest", "slot", "cell"]
theorem sc_do_read : FnScope N_do_read ["walk", "rest"] (defScope s_do_read) := ⟨rfl, rfl, rfl, by decide +kernel, rfl, by decide +kernel, by decide +kernel⟩
abbrev N_do_write : List Str := ["walk", "rest", "cell", "amount"]
theorem sc_do_write : FnScope N_do_write ["walk", "rest"] (defScope s_do_write) := ⟨rfl, rfl, rfl, by decide +kernel, rfl, by decide +kernel, by decide +kernel⟩
abbrev N_do_let : List Str := ["walk", "rest", "slot", "amount"]
theorem sc_do_let : FnScope N_do_let ["walk", "rest"] (defScope s_do_let) := ⟨rfl, rfl, rfl, by decide +kernel, rfl, by decide +kernel, by decide +kernel⟩
abbrev N_do_tell : List Str := ["walk", "rest"]
theorem sc_do_tell : FnScope N_do_tell ["walk", "rest"] (defScope s_do_tell) := ⟨rfl, rfl, rfl, by decide +kernel, rfl, by decide +kernel, by decide +kernel⟩
theorem sc_do_out : FnScope N_do_tell ["walk", "rest"] (defScope s_do_out) := ⟨rfl, rfl, rfl, by decide +kernel, rfl, by decide +kernel, by decide +kernel⟩
theorem sc_do_retry : FnScope N_do_tell ["walk", "rest"] (defScope s_do_retry) := ⟨rfl, rfl, rfl, by decide +kernel, rfl, by decide +kernel, by decide +kernel⟩
abbrev N_do_if : List Str := ["walk", "rest", "amount", "first", "second"]
theorem sc_do_if : FnScope N_do_if ["walk", "rest"] (defScope s_do_if) := ⟨rfl, rfl, rfl, by decide +kernel, rfl, by decide +kernel, by decide +kernel⟩
abbrev N_do_inner : List Str := ["walk", "rest", "first", "second", "kept", "left"]
theorem sc_do_inner : FnScope N_do_inner ["walk", "rest"] (defScope s_do_inner) := ⟨rfl, rfl, rfl, by decide +kernel, rfl, by decide +kernel, by decide +kernel⟩
theorem sc_do_either : FnScope N_do_inner ["walk", "rest"] (defScope s_do_either) := ⟨rfl, rfl, rfl, by decide +kernel, rfl, by decide +kernel, by decide +kernel⟩
abbrev walkAtt : List Str := ["base", "given", "wrote", "spoke", "saw"]
section
variable {P : Program} {w : World} {K : PySem.W.Frag} {mg : Str → Option Value} {base : Heap} {C : Addr} {n k : Nat}
theorem ok_do_read (c : Cls K C) (na : ∀ x : Str, x ∈ walkAtt → NoAttr K C x) (F : Fd K mg "do_read" s_do_read ["walk", "rest"]) (M : MCal P w K mg base C k "seen" ["self", "cell"] (spSeen K C)) : Cal P w K mg base (k + 1) "do_read" ["walk", "rest"] (spDo K C n .read) := by
  refine F.ok sc_do_read (fun vs H Q ⟨_, _, _, _, _, _, _, _, _, _, _, _, _, h, _⟩ => by rw [h]; rfl) fun f cdv A outer s0 H vs Q E hr h => ?_
  obtain ⟨wk, dx, ba, gd, wr, sp, sa, l, t, as, bs, s, st, rfl, hk, hl, hI, ht, ⟨W, hb, m, wb, hm⟩, hd, ho, q⟩ := h
  refine ⟨_, pss_cons (ps_asg (pv 1) (pg_unl rfl (pgs_cons (pg_name (i := 2) sc_do_read.nd rfl (.inl rfl)) (pgs_cons (pg_name (i := 3) sc_do_read.nd rfl (.inl rfl)) pgs_nil))))
    (pss_cons (ps_dput (u1 hr) (pe_fld (pv 0) rfl) (pv 2) (pe_mcal (pl := _) M c hr (pv 0) (pa_cons (pv 3) pa_nil)) rfl)
    (pss_one (ps_ret pe_str))), ?_⟩
  have n2 := na "given" (by simp)
  cases st with
  | read x cc =>
    obtain ⟨t', e1, e2⟩ := hI
    cases e1
    obtain rfl := tup_tail ht e2
    refine ⟨_, rfl, l, _, rfl, SqL.of hl, rfl, _, _, rfl, _, _, rfl, rfl, ?_⟩
    have hsl := wb.rl
    have hgl := wb.gl
    refine ⟨_, rfl, wk, dx, _, rfl, W.at_, rfl, _, rfl, wk, dx, ba, gd, wr, sp, sa, bs, s, cc, rfl, W, ho, by omega, fun H1 M1 W1 => ?_⟩
    refine ⟨_, rfl, wk, C, dx, _, .ref gd, rfl, W1.at_, c, n2, rfl, _, rfl, gd, _, rfl, DPut.k (k := Sum.inr x) W1.g (by rw [List.length_map, seeW_given, sizeLine_eq]; omega), ?_⟩
    rw [put_si]
    obtain ⟨M2, W2⟩ := W1.putG x (seeV bs s cc)
    exact q _ _ _ _ (M1.trans M2) W2
  | _ => cases hk
theorem ok_do_write (c : Cls K C) (na : ∀ x : Str, x ∈ walkAtt → NoAttr K C x) (F : Fd K mg "do_write" s_do_write ["walk", "rest"]) (R : Cal P w K mg base k "reckoned" ["amount", "given"] (spReck 4)) : Cal P w K mg base (k + 1) "do_write" ["walk", "rest"] (spDo K C n .write) := by
  refine F.ok sc_do_write (fun vs H Q ⟨_, _, _, _, _, _, _, _, _, _, _, _, _, h, _⟩ => by rw [h]; rfl) fun f cdv A outer s0 H vs Q E hr h => ?_
  obtain ⟨wk, dx, ba, gd, wr, sp, sa, l, t, as, bs, s, st, rfl, hk, hl, hI, ht, ⟨W, hb, m, wb, hm⟩, hd, ho, q⟩ := h
  refine ⟨_, pss_cons (ps_asg (pv 1) (pg_unl rfl (pgs_cons (pg_name (i := 2) sc_do_write.nd rfl (.inl rfl)) (pgs_cons (pg_name (i := 3) sc_do_write.nd rfl (.inl rfl)) pgs_nil))))
    (pss_cons (ps_dput (u1 hr) (pe_fld (pv 0) rfl) (pv 2) (pe_cal R hr rfl (pa_cons (pv 3) (pa_cons (pe_fld (pv 0) rfl) pa_nil))) rfl)
    (pss_one (ps_ret pe_str))), ?_⟩
  have n2 := na "given" (by simp)
  have n3 := na "wrote" (by simp)
  cases st with
  | write cc a =>
    obtain ⟨va, ⟨t', e1, e2⟩, ha⟩ := hI
    cases e1
    obtain rfl := tup_tail ht e2
    have hwl := wb.wl
    refine ⟨_, rfl, l, _, rfl, SqL.of hl, rfl, _, _, rfl, _, _, rfl, rfl, ?_⟩
    refine ⟨_, rfl, _, rfl, wk, C, dx, _, .ref gd, rfl, W.at_, c, n2, rfl, a, va, gd, s.given, rfl, ha, W.g, Nat.lt_succ_of_le ho.2.2, fun H1 s1 => ?_⟩
    have W1 := W.same s1
    refine ⟨_, rfl, wk, C, dx, _, .ref wr, rfl, W1.at_, c, n3, rfl, _, rfl, wr, _, rfl, DPut.k (k := Sum.inl (cc : Int)) W1.w (by rw [List.length_map, sizeLine_eq]; omega), ?_⟩
    rw [put_ii]
    obtain ⟨M2, W2⟩ := W1.putW (cc : Int) (evS s.given a)
    exact q _ _ _ _ ((Mv.of_same s1 ..).trans M2) W2
  | _ => cases hk
theorem ok_do_let (c : Cls K C) (na : ∀ x : Str, x ∈ walkAtt → NoAttr K C x) (F : Fd K mg "do_let" s_do_let ["walk", "rest"]) (R : Cal P w K mg base k "reckoned" ["amount", "given"] (spReck 4)) : Cal P w K mg base (k + 1) "do_let" ["walk", "rest"] (spDo K C n .lt) := by
  refine F.ok sc_do_let (fun vs H Q ⟨_, _, _, _, _, _, _, _, _, _, _, _, _, h, _⟩ => by rw [h]; rfl) fun f cdv A outer s0 H vs Q E hr h => ?_
  obtain ⟨wk, dx, ba, gd, wr, sp, sa, l, t, as, bs, s, st, rfl, hk, hl, hI, ht, ⟨W, hb, m, wb, hm⟩, hd, ho, q⟩ := h
  refine ⟨_, pss_cons (ps_asg (pv 1) (pg_unl rfl (pgs_cons (pg_name (i := 2) sc_do_let.nd rfl (.inl rfl)) (pgs_cons (pg_name (i := 3) sc_do_let.nd rfl (.inl rfl)) pgs_nil))))
    (pss_cons (ps_dput (u1 hr) (pe_fld (pv 0) rfl) (pv 2) (pe_cal R hr rfl (pa_cons (pv 3) (pa_cons (pe_fld (pv 0) rfl) pa_nil))) rfl)
    (pss_one (ps_ret pe_str))), ?_⟩
  have n2 := na "given" (by simp)
  cases st with
  | lt x a =>
    obtain ⟨va, ⟨t', e1, e2⟩, ha⟩ := hI
    cases e1
    obtain rfl := tup_tail ht e2
    have hgl := wb.gl
    refine ⟨_, rfl, l, _, rfl, SqL.of hl, rfl, _, _, rfl, _, _, rfl, rfl, ?_⟩
    refine ⟨_, rfl, _, rfl, wk, C, dx, _, .ref gd, rfl, W.at_, c, n2, rfl, a, va, gd, s.given, rfl, ha, W.g, Nat.lt_succ_of_le ho.2, fun H1 s1 => ?_⟩
    have W1 := W.same s1
    refine ⟨_, rfl, wk, C, dx, _, .ref gd, rfl, W1.at_, c, n2, rfl, _, rfl, gd, _, rfl, DPut.k (k := Sum.inr x) W1.g (by rw [List.length_map, sizeLine_eq]; omega), ?_⟩
    rw [put_si]
    obtain ⟨M2, W2⟩ := W1.putG x (evS s.given a)
    exact q _ _ _ _ ((Mv.of_same s1 ..).trans M2) W2
  | _ => cases hk
theorem ok_do_tell (c : Cls K C) (na : ∀ x : Str, x ∈ walkAtt → NoAttr K C x) (F : Fd K mg "do_tell" s_do_tell ["walk", "rest"]) (R : Cal P w K mg base k "reckoned" ["amount", "given"] (spReck 4)) : Cal P w K mg base (k + 1) "do_tell" ["walk", "rest"] (spDo K C n .tell) := by
  refine F.ok sc_do_tell (fun vs H Q ⟨_, _, _, _, _, _, _, _, _, _, _, _, _, h, _⟩ => by rw [h]; rfl) fun f cdv A outer s0 H vs Q E hr h => ?_
  obtain ⟨wk, dx, ba, gd, wr, sp, sa, l, t, as, bs, s, st, rfl, hk, hl, hI, ht, ⟨W, hb, m, wb, hm⟩, hd, ho, q⟩ := h
  refine ⟨_, pss_cons (ps_fld (pv 0) (pe_op op_catA (pe_fld (pv 0) rfl) (pe_tup (pa_cons (pe_cal R hr rfl (pa_cons (pe_ix ix_list (pv 1) pe_int (fun _ _ => rfl)) (pa_cons (pe_fld (pv 0) rfl) pa_nil))) pa_nil))) rfl)
    (pss_one (ps_ret pe_str)), ?_⟩
  have n2 := na "given" (by simp)
  have n4 := na "spoke" (by simp)
  cases st with
  | tell a =>
    obtain ⟨va, ⟨t', e1, e2⟩, ha⟩ := hI
    cases e1
    obtain rfl := tup_tail ht e2
    have htl := wb.tl
    refine ⟨_, rfl, wk, C, dx, _, .ref sp, rfl, W.at_, c, n4, rfl, ?_⟩
    refine ⟨_, rfl, l, _, 0, _, rfl, rfl, SqL.of hl, rfl, _, rfl, wk, C, dx, _, .ref gd, rfl, W.at_, c, n2, rfl, a, va, gd, s.given, rfl, ha, W.g, Nat.lt_succ_of_le ho.2, fun H1 s1 => ⟨by show 1 ≤ sizeLine; decide, fun b nb => ?_⟩⟩
    have s2 := Same.trans s1 (same_upd (o := .tup [.int (evS s.given a)]) nb)
    have hb2 : upd H1 b (.tup [.int (evS s.given a)]) b = some (.tup [.int (evS s.given a)]) := upd_same
    generalize upd H1 b (.tup [.int (evS s.given a)]) = H2 at s2 hb2
    have W2 := W.same s2
    refine cat_any W2.t hb2 (by rw [List.length_map, List.length_singleton]; omega) fun d H3 s3 hd3 => ?_
    have W3 := W2.same s3
    refine ⟨_, rfl, wk, C, dx, _, rfl, W3.at_, c, n4, by show 5 < 1000; omega, ?_⟩
    obtain ⟨M4, W4⟩ := W3.putT (ts := s.spoke ++ [evS s.given a]) (sp' := d) (by rw [hd3, List.map_append]; rfl)
    exact q _ _ _ _ ((Mv.of_same (Same.trans s2 s3) ..).trans M4) W4
  | _ => cases hk
theorem ok_do_out (F : Fd K mg "do_out" s_do_out ["walk", "rest"]) : Cal P w K mg base (k + 1) "do_out" ["walk", "rest"] (spDo K C n .out) := by
  refine F.ok sc_do_out (fun vs H Q ⟨_, _, _, _, _, _, _, _, _, _, _, _, _, h, _⟩ => by rw [h]; rfl) fun f cdv A outer s0 H vs Q E hr h => ?_
  obtain ⟨wk, dx, ba, gd, wr, sp, sa, l, t, as, bs, s, st, rfl, hk, hl, hI, ht, ⟨W, hb, m, wb, hm⟩, hd, ho, q⟩ := h
  refine ⟨_, pss_one (ps_ret pe_str), ?_⟩
  cases st with
  | out => exact q H gd wr sp (Mv.refl ..) W
  | _ => cases hk
theorem ok_do_retry (F : Fd K mg "do_retry" s_do_retry ["walk", "rest"]) : Cal P w K mg base (k + 1) "do_retry" ["walk", "rest"] (spDo K C n .retry) := by
  refine F.ok sc_do_retry (fun vs H Q ⟨_, _, _, _, _, _, _, _, _, _, _, _, _, h, _⟩ => by rw [h]; rfl) fun f cdv A outer s0 H vs Q E hr h => ?_
  obtain ⟨wk, dx, ba, gd, wr, sp, sa, l, t, as, bs, s, st, rfl, hk, hl, hI, ht, ⟨W, hb, m, wb, hm⟩, hd, ho, q⟩ := h
  refine ⟨_, pss_one (ps_ret pe_str), ?_⟩
  cases st with
  | retry => exact q H gd wr sp (Mv.refl ..) W
  | _ => cases hk
end
end Pk
-- ## PkGo
set_option Elab.async false
set_option linter.all false
set_option maxRecDepth 100000
set_option maxHeartbeats 4000000
namespace Pk
open PySem PySem.Spec PyProof.Rows L2
abbrev N_wgo : List Str := ["self", "program", "word", "rest", "deed", "left"]
theorem sc_wgo : FnScope N_wgo ["self", "program"] (defScope sw_go) := ⟨rfl, rfl, rfl, by decide +kernel, rfl, by decide +kernel, by decide +kernel⟩
section
variable {P : Program} {w : World} {K : PySem.W.Frag} {mg : Str → Option Value} {base : Heap} {C : Addr} {n k : Nat}
theorem okP_all {m : Nat} {p : List Stp} {i : Nat} {st : Stp} (h : okP m p) (e : p[i]? = some st) : allS (okS m) okA st := by
  induction p generalizing i with
  | nil => simp at e
  | cons x r ih =>
    cases i with
    | zero => cases e; exact h.1
    | succ i => exact ih h.2 (by simpa using e)
theorem ok_do_if (c : Cls K C) (na : ∀ x : Str, x ∈ walkAtt → NoAttr K C x) (F : Fd K mg "do_if" s_do_if ["walk", "rest"]) (R : Cal P w K mg base k "reckoned" ["amount", "given"] (spReck 4)) (G : MCal P w K mg base C k "go" ["self", "program"] (spGo K C n)) : Cal P w K mg base (k + 1) "do_if" ["walk", "rest"] (spDo K C n .ite) := by
  refine F.ok sc_do_if (fun vs H Q ⟨_, _, _, _, _, _, _, _, _, _, _, _, _, h, _⟩ => by rw [h]; rfl) fun f cdv A outer s0 H vs Q E hr h => ?_
  obtain ⟨wk, dx, ba, gd, wr, sp, sa, l, t, as, bs, s, st, rfl, hk, hl, hI, ht, ⟨W, hb, m, wb, hm⟩, hd, ho, q⟩ := h
  refine ⟨_, pss_cons (ps_asg (pv 1) (pg_unl rfl (pgs_cons (pg_name (i := 2) sc_do_if.nd rfl (.inl rfl)) (pgs_cons (pg_name (i := 3) sc_do_if.nd rfl (.inl rfl)) (pgs_cons (pg_name (i := 4) sc_do_if.nd rfl (.inl rfl)) pgs_nil)))))
    (pss_one (ps_ret (pe_mcal (pl := _) G c hr (pv 0) (pa_cons (pe_ifExp (pt_cmpR op_gt (pe_cal R hr rfl (pa_cons (pv 2) (pa_cons (pe_fld (pv 0) rfl) pa_nil))) pe_int (nomark _)) (pv 3) (pv 4)) pa_nil)))), ?_⟩
  have n2 := na "given" (by simp)
  cases st with
  | ite a p1 p2 =>
    obtain ⟨va, t1, t2, vs1, vs2, ⟨t', e1, e2⟩, ha, h1, h2⟩ := hI
    cases e1
    obtain rfl := tup_tail ht e2
    simp only [depS, cntS] at hd hm
    refine ⟨_, rfl, l, _, rfl, SqL.of hl, rfl, _, _, rfl, _, _, rfl, _, _, rfl, rfl, ?_⟩
    refine ⟨_, rfl, wk, dx, _, rfl, W.at_, rfl, _, rfl, _, rfl, wk, C, dx, _, .ref gd, rfl, W.at_, c, n2, rfl, a, va, gd, s.given, rfl, ha, W.g, Nat.lt_succ_of_le ho.1.2, fun H1 s1 => ?_⟩
    have W1 := W.same s1
    refine ⟨_, _, rfl, rfl, _, rfl, ?_⟩
    refine ite2 (fun c1 => ?_) (fun c1 => ?_)
    · have eg : goS (opsW bs) (.ite a p1 p2) s = go (opsW bs) p1 s := by
        unfold goS
        exact if_pos c1
      refine ⟨_, rfl, wk, dx, ba, gd, wr, sp, sa, bs, s, p1, _, rfl, ⟨W1, hb, m, wb, by omega⟩, (isPr_mk h1).mono (Same.tle s1), by omega, ho.2.1, fun H2 gd' wr' sp' M2 W2 => ?_⟩
      have := q H2 gd' wr' sp' ((Mv.of_same s1 ..).trans M2) (by rw [eg]; exact W2)
      rw [eg] at this
      exact this
    · have eg : goS (opsW bs) (.ite a p1 p2) s = go (opsW bs) p2 s := by
        unfold goS
        exact if_neg c1
      refine ⟨_, rfl, wk, dx, ba, gd, wr, sp, sa, bs, s, p2, _, rfl, ⟨W1, hb, m, wb, by omega⟩, (isPr_mk h2).mono (Same.tle s1), by omega, ho.2.2, fun H2 gd' wr' sp' M2 W2 => ?_⟩
      have := q H2 gd' wr' sp' ((Mv.of_same s1 ..).trans M2) (by rw [eg]; exact W2)
      rw [eg] at this
      exact this
  | _ => cases hk
theorem goS_alt {bs : List Int} {s : Wk} {p1 p2 : List Stp} (x : Left) : ∀ st, (st = Stp.inner p1 p2 ∧ x = .out) ∨ (st = Stp.either p1 p2 ∧ x = .retry) → goS (opsW bs) st s = if (go (opsW bs) p1 s).2 = x then go (opsW bs) p2 ((opsW bs).back s (go (opsW bs) p1 s).1) else go (opsW bs) p1 s := by
  rintro st (⟨rfl, rfl⟩ | ⟨rfl, rfl⟩)
  · unfold goS alt; rfl
  · unfold goS alt; rfl
theorem ok_do_inner (c : Cls K C) (na : ∀ x : Str, x ∈ walkAtt → NoAttr K C x) (F : Fd K mg "do_inner" s_do_inner ["walk", "rest"]) (Kp : MCal P w K mg base C k "kept" ["self"] (spKept K C)) (B : MCal P w K mg base C k "back_to" ["self", "kept"] (spBack K C)) (G : MCal P w K mg base C k "go" ["self", "program"] (spGo K C n)) : Cal P w K mg base (k + 1) "do_inner" ["walk", "rest"] (spDo K C n .inner) := by
  refine F.ok sc_do_inner (fun vs H Q ⟨_, _, _, _, _, _, _, _, _, _, _, _, _, h, _⟩ => by rw [h]; rfl) fun f cdv A outer s0 H vs Q E hr h => ?_
  obtain ⟨wk, dx, ba, gd, wr, sp, sa, l, t, as, bs, s, st, rfl, hk, hl, hI, ht, ⟨W, hb, m, wb, hm⟩, hd, ho, q⟩ := h
  refine ⟨_, pss_cons (ps_asg (pv 1) (pg_unl rfl (pgs_cons (pg_name (i := 2) sc_do_inner.nd rfl (.inl rfl)) (pgs_cons (pg_name (i := 3) sc_do_inner.nd rfl (.inl rfl)) pgs_nil))))
    (pss_cons (ps_set (i := 4) sc_do_inner.nd rfl (.inl rfl) (pe_mcal0 (pl := _) Kp c hr (pv 0)))
    (pss_cons (ps_set (i := 5) sc_do_inner.nd rfl (.inl rfl) (pe_mcal (pl := _) G c hr (pv 0) (pa_cons (pv 2) pa_nil)))
    (pss_cons (ps_if (pt_cmpR op_ne (pv 5) pe_str (nomark _)) (pss_one (ps_ret (pv 5))) pss_nil)
    (pss_cons (ps_expr (pe_mcal (pl := _) B c hr (pv 0) (pa_cons (pv 4) pa_nil)))
    (pss_one (ps_ret (pe_mcal (pl := _) G c hr (pv 0) (pa_cons (pv 3) pa_nil)))))))), ?_⟩
  cases st with
  | inner p1 p2 =>
    obtain ⟨t1, t2, vs1, vs2, ⟨t', e1, e2⟩, h1, h2⟩ := hI
    cases e1
    obtain rfl := tup_tail ht e2
    simp only [depS, cntS] at hd hm
    have hbm : bs.length ≤ 10 := hb.2
    have eg := goS_alt (bs := bs) (s := s) (p1 := p1) (p2 := p2) .out (.inner p1 p2) (.inl ⟨rfl, rfl⟩)
    refine ⟨_, rfl, l, _, rfl, SqL.of hl, rfl, _, _, rfl, _, _, rfl, rfl, ?_⟩
    refine ⟨_, rfl, wk, dx, _, rfl, W.at_, rfl, wk, dx, ba, gd, wr, sp, sa, bs, s, rfl, W, fun H1 kt g' w' s1 ng nw hne hg1 hw1 hk1 => ?_⟩
    have W1 := W.same s1
    refine ⟨_, rfl, wk, dx, _, rfl, W1.at_, rfl, _, rfl, wk, dx, ba, gd, wr, sp, sa, bs, s, p1, _, rfl, ⟨W1, hb, m, wb, by omega⟩, (isPr_mk h1).mono (Same.tle s1), by omega, ho.1, fun H2 gd2 wr2 sp2 M2 W2 => ?_⟩
    have M02 := (Mv.of_same s1 wk gd wr sa).trans M2
    refine ⟨_, rfl, rfl, _, rfl, ?_⟩
    rw [show (Str.ofString "out") = leftN .out from rfl, dec_left]
    refine ite2 (fun c1 => ?_) (fun c1 => ?_)
    · have hne1 : (go (opsW bs) p1 s).2 ≠ .out := by simpa using c1
      rw [if_neg hne1] at eg
      refine ⟨_, rfl, ?_⟩
      have := q H2 gd2 wr2 sp2 M02 (by rw [eg]; exact W2)
      rw [eg] at this
      exact this
    · have heq1 : (go (opsW bs) p1 s).2 = .out := by simpa using c1
      rw [if_pos heq1] at eg
      -- the kept copies stand
      have nk : ∀ x, H x = none → x ≠ wk ∧ x ≠ gd ∧ x ≠ wr ∧ x ≠ sa := fun x hx =>
        ⟨fun e => (by have := W.at_; rw [← e, hx] at this; cases this), fun e => (by have := W.g; rw [← e, hx] at this; cases this), fun e => (by have := W.w; rw [← e, hx] at this; cases this), fun e => (by have := W.r; rw [← e, hx] at this; cases this)⟩
      obtain ⟨a1, a2, a3, a4⟩ := nk g' ng
      obtain ⟨b1, b2, b3, b4⟩ := nk w' nw
      have hg2 := M2.but _ _ hg1 a1 a2 a3 a4
      have hw2 := M2.but _ _ hw1 b1 b2 b3 b4
      have hk2 := W1.tle M2 _ _ hk1
      have hsp2 := W1.tle M2 _ _ W1.t
      refine ⟨_, rfl, wk, dx, _, rfl, W2.at_, rfl, _, rfl, wk, dx, ba, gd2, wr2, sp2, sa, bs, _, kt, g', w', sp, s, rfl, W2, hk2, hg2, hw2, hsp2, fun H3 gd3 wr3 M3 W3 => ?_⟩
      have M03 := M02.trans M3
      have V := go_WB (m := bs.length) hb hbm p1 m s wb ho.1
      refine ⟨_, rfl, wk, dx, _, rfl, W3.at_, rfl, _, rfl, wk, dx, ba, gd3, wr3, sp, sa, bs, _, p2, _, rfl, ⟨W3, hb, m + cnt p1, wb.back V (Nat.le_add_right _ _), by omega⟩, (isPr_mk h2).mono (W.tle M03), by omega, ho.2, fun H4 gd4 wr4 sp4 M4 W4 => ?_⟩
      have := q H4 gd4 wr4 sp4 (M03.trans M4) (by rw [eg]; exact W4)
      rw [eg] at this
      exact this
  | _ => cases hk
theorem ok_do_either (c : Cls K C) (na : ∀ x : Str, x ∈ walkAtt → NoAttr K C x) (F : Fd K mg "do_either" s_do_either ["walk", "rest"]) (Kp : MCal P w K mg base C k "kept" ["self"] (spKept K C)) (B : MCal P w K mg base C k "back_to" ["self", "kept"] (spBack K C)) (G : MCal P w K mg base C k "go" ["self", "program"] (spGo K C n)) : Cal P w K mg base (k + 1) "do_either" ["walk", "rest"] (spDo K C n .either) := by
  refine F.ok sc_do_either (fun vs H Q ⟨_, _, _, _, _, _, _, _, _, _, _, _, _, h, _⟩ => by rw [h]; rfl) fun f cdv A outer s0 H vs Q E hr h => ?_
  obtain ⟨wk, dx, ba, gd, wr, sp, sa, l, t, as, bs, s, st, rfl, hk, hl, hI, ht, ⟨W, hb, m, wb, hm⟩, hd, ho, q⟩ := h
  refine ⟨_, pss_cons (ps_asg (pv 1) (pg_unl rfl (pgs_cons (pg_name (i := 2) sc_do_either.nd rfl (.inl rfl)) (pgs_cons (pg_name (i := 3) sc_do_either.nd rfl (.inl rfl)) pgs_nil))))
    (pss_cons (ps_set (i := 4) sc_do_either.nd rfl (.inl rfl) (pe_mcal0 (pl := _) Kp c hr (pv 0)))
    (pss_cons (ps_set (i := 5) sc_do_either.nd rfl (.inl rfl) (pe_mcal (pl := _) G c hr (pv 0) (pa_cons (pv 2) pa_nil)))
    (pss_cons (ps_if (pt_cmpR op_ne (pv 5) pe_str (nomark _)) (pss_one (ps_ret (pv 5))) pss_nil)
    (pss_cons (ps_expr (pe_mcal (pl := _) B c hr (pv 0) (pa_cons (pv 4) pa_nil)))
    (pss_one (ps_ret (pe_mcal (pl := _) G c hr (pv 0) (pa_cons (pv 3) pa_nil)))))))), ?_⟩
  cases st with
  | either p1 p2 =>
    obtain ⟨t1, t2, vs1, vs2, ⟨t', e1, e2⟩, h1, h2⟩ := hI
    cases e1
    obtain rfl := tup_tail ht e2
    simp only [depS, cntS] at hd hm
    have hbm : bs.length ≤ 10 := hb.2
    have eg := goS_alt (bs := bs) (s := s) (p1 := p1) (p2 := p2) .retry (.either p1 p2) (.inr ⟨rfl, rfl⟩)
    refine ⟨_, rfl, l, _, rfl, SqL.of hl, rfl, _, _, rfl, _, _, rfl, rfl, ?_⟩
    refine ⟨_, rfl, wk, dx, _, rfl, W.at_, rfl, wk, dx, ba, gd, wr, sp, sa, bs, s, rfl, W, fun H1 kt g' w' s1 ng nw hne hg1 hw1 hk1 => ?_⟩
    have W1 := W.same s1
    refine ⟨_, rfl, wk, dx, _, rfl, W1.at_, rfl, _, rfl, wk, dx, ba, gd, wr, sp, sa, bs, s, p1, _, rfl, ⟨W1, hb, m, wb, by omega⟩, (isPr_mk h1).mono (Same.tle s1), by omega, ho.1, fun H2 gd2 wr2 sp2 M2 W2 => ?_⟩
    have M02 := (Mv.of_same s1 wk gd wr sa).trans M2
    refine ⟨_, rfl, rfl, _, rfl, ?_⟩
    rw [show (Str.ofString "retry") = leftN .retry from rfl, dec_left]
    refine ite2 (fun c1 => ?_) (fun c1 => ?_)
    · have hne1 : (go (opsW bs) p1 s).2 ≠ .retry := by simpa using c1
      rw [if_neg hne1] at eg
      refine ⟨_, rfl, ?_⟩
      have := q H2 gd2 wr2 sp2 M02 (by rw [eg]; exact W2)
      rw [eg] at this
      exact this
    · have heq1 : (go (opsW bs) p1 s).2 = .retry := by simpa using c1
      rw [if_pos heq1] at eg
      have nk : ∀ x, H x = none → x ≠ wk ∧ x ≠ gd ∧ x ≠ wr ∧ x ≠ sa := fun x hx =>
        ⟨fun e => (by have := W.at_; rw [← e, hx] at this; cases this), fun e => (by have := W.g; rw [← e, hx] at this; cases this), fun e => (by have := W.w; rw [← e, hx] at this; cases this), fun e => (by have := W.r; rw [← e, hx] at this; cases this)⟩
      obtain ⟨a1, a2, a3, a4⟩ := nk g' ng
      obtain ⟨b1, b2, b3, b4⟩ := nk w' nw
      have hg2 := M2.but _ _ hg1 a1 a2 a3 a4
      have hw2 := M2.but _ _ hw1 b1 b2 b3 b4
      have hk2 := W1.tle M2 _ _ hk1
      have hsp2 := W1.tle M2 _ _ W1.t
      refine ⟨_, rfl, wk, dx, _, rfl, W2.at_, rfl, _, rfl, wk, dx, ba, gd2, wr2, sp2, sa, bs, _, kt, g', w', sp, s, rfl, W2, hk2, hg2, hw2, hsp2, fun H3 gd3 wr3 M3 W3 => ?_⟩
      have M03 := M02.trans M3
      have V := go_WB (m := bs.length) hb hbm p1 m s wb ho.1
      refine ⟨_, rfl, wk, dx, _, rfl, W3.at_, rfl, _, rfl, wk, dx, ba, gd3, wr3, sp, sa, bs, _, p2, _, rfl, ⟨W3, hb, m + cnt p1, wb.back V (Nat.le_add_right _ _), by omega⟩, (isPr_mk h2).mono (W.tle M03), by omega, ho.2, fun H4 gd4 wr4 sp4 M4 W4 => ?_⟩
      have := q H4 gd4 wr4 sp4 (M03.trans M4) (by rw [eg]; exact W4)
      rw [eg] at this
      exact this
  | _ => cases hk
/-- all nine deeds, by their words -/
structure Deeds (P : Program) (w : World) (K : PySem.W.Frag) (mg : Str → Option Value) (base : Heap) (C : Addr) (k n : Nat) (fa : Kw → Addr) : Prop where
  ok : ∀ kk, Hld P w K mg base k (fa kk) (spDo K C n kk)
theorem ok_wgo {fa : Kw → Addr} (c : Cls K C) (F : MD K C "go" "Walk.go" sw_go ["self", "program"]) (T : HasTab K w mg "WORDS" kwN (fun kk => .ref (fa kk))) (D : Deeds P w K mg base C k n fa) : MCal P w K mg base C (k + 1) "go" ["self", "program"] (spGo K C (n + 1)) := by
  obtain ⟨d, hT, tab⟩ := T
  refine F.ok sc_wgo (fun vs H Q ⟨_, _, _, _, _, _, _, _, _, _, _, h, _⟩ => by rw [h]; rfl) fun f cdv A outer s0 H vs Q E hr h => ?_
  obtain ⟨wk, dx, ba, gd, wr, sp, sa, bs, s, p, v, rfl, ⟨W, hb, m, wb, hm⟩, hp, hd, ho, q⟩ := h
  refine ⟨_, pss_cons (ps_for PassesOwn.never rfl (pi_tup (pv 1)) (pg_star rfl (pgs_cons (pg_name (i := 2) sc_wgo.nd rfl (.inl rfl)) (pgs_star (pg_name (i := 3) sc_wgo.nd rfl (.inl rfl)))))
      (pss_cons (ps_set (i := 4) sc_wgo.nd rfl (.inl rfl) (pe_ix ix_kdict (pe_glob (v := .ref d) rfl hT rfl) (pv 2) (fun _ _ => rfl)))
      (pss_cons (ps_set (i := 5) sc_wgo.nd rfl (.inl rfl) (pe_callR (i := 4) (S := fun f sp => ∃ kk, f = fa kk ∧ sp = spDo K C n kk) (fun f sp ⟨kk, e1, e2⟩ => by rw [e1, e2]; exact D.ok kk) hr rfl (.inl rfl) (pa_cons (pv 0) (pa_cons (pv 3) pa_nil))))
      (pss_one (ps_if (pt_cmpR op_ne (pv 5) pe_str (nomark _)) (pss_one (ps_ret (pv 5))) pss_nil)))))
    (pss_one (ps_ret pe_str)), ?_⟩
  have hbm : bs.length ≤ 10 := hb.2
  obtain ⟨t, ws, rfl, ht, hs⟩ := hp
  refine ⟨.ref t, rfl, t, rfl, ⟨ws, SqT.of ht⟩, for_it (walk_tup (xs := ws)) (fun i σ H' => ∃ y2 y3 y4 y5 gd' wr' sp' s', σ = [some (.ref wk), some (.ref t), y2, y3, y4, y5] ∧ Mv H H' wk gd wr sa gd' wr' ∧ IsWk K H' C wk dx ba gd' wr' sp' sa bs s' ∧ WB (m + cnt (p.take i)) s' ∧ go (opsW bs) p s = go (opsW bs) (p.drop i) s')
    ⟨none, none, none, none, gd, wr, sp, s, rfl, Mv.refl .., W, wb, rfl⟩ (fun i σ H' _ ⟨_, _, _, _, _, _, _, _, _, M, _, _, _⟩ => SqT.of (W.tle M _ _ ht)) (fun i x σ H1 H2 hi ⟨y2, y3, y4, y5, gd', wr', sp', s', e1, M, W', wb', eg⟩ hY => ?_) (fun σ H' ⟨y2, y3, y4, y5, gd', wr', sp', s', e1, M, W', wb', eg⟩ => ?_)⟩
  · obtain ⟨e2, hx⟩ := hY
    subst e1 e2
    obtain ⟨st, hst, hI⟩ := hs.at hx
    obtain ⟨hd1, hc1⟩ := at_step hst
    have hos := okP_all ho hst
    obtain ⟨t1, as, rfl, h1, hlen⟩ := hI.open
    have htk : cnt (p.take (i + 1)) = cnt (p.take i) + cntS st := by
      rw [take_next hst, cnt_append]
      simp [cnt]
    have htl := cnt_take p (i + 1)
    have tl := W.tle M
    refine ⟨t1, _, as, rfl, SqT.of (tl _ _ h1), by omega, fun l nl => ?_⟩
    have sl := same_upd (o := .lst as) nl
    have hl : upd H2 l (.lst as) l = some (.lst as) := upd_same
    have W3 := W'.same sl
    have M3 := M.trans (Mv.of_same sl wk gd' wr' sa)
    have tl3 := W.tle M3
    generalize upd H2 l (.lst as) = H3 at sl hl W3 M3 tl3
    refine ⟨_, _, rfl, _, _, rfl, rfl, ?_⟩
    refine ⟨_, rfl, d, _, .ref (fa (kw st)), rfl, rfl, tab (kw st), ?_⟩
    refine ⟨_, _, rfl, ⟨kw st, rfl, rfl⟩, _, rfl, _, rfl, wk, dx, ba, gd', wr', sp', sa, l, t1, as, bs, s', st, rfl, rfl, hl, hI.mono tl3, tl3 _ _ h1, ⟨W3, hb, _, wb', by omega⟩, by omega, hos, fun H4 gd4 wr4 sp4 M4 W4 => ?_⟩
    have M04 := M3.trans M4
    have V := goS_WB (m := bs.length) hb hbm st _ s' wb' hos
    rw [drop_cons hst] at eg
    refine ⟨_, rfl, rfl, _, rfl, ?_⟩
    rw [show (Str.ofString "end") = leftN .fin from rfl, dec_left]
    refine ite2 (fun c1 => ?_) (fun c1 => ?_)
    · have hne : (goS (opsW bs) st s').2 ≠ .fin := by simpa using c1
      have eg2 : go (opsW bs) p s = goS (opsW bs) st s' := by
        rw [eg]
        unfold go
        cases e : goS (opsW bs) st s' with
        | mk a b =>
          rw [e] at hne
          cases b with
          | fin => exact absurd rfl hne
          | out => rfl
          | retry => rfl
      refine ⟨_, rfl, ?_⟩
      have := q H4 gd4 wr4 sp4 M04 (by rw [eg2]; exact W4)
      rw [eg2] at this
      exact this
    · have heq : (goS (opsW bs) st s').2 = .fin := by simpa using c1
      have eg2 : go (opsW bs) p s = go (opsW bs) (p.drop (i + 1)) (goS (opsW bs) st s').1 := by
        rw [eg]
        conv => lhs; unfold go
        cases e : goS (opsW bs) st s' with
        | mk a b =>
          rw [e] at heq
          cases heq
          rfl
      refine ⟨_, _, _, _, gd4, wr4, sp4, _, rfl, M04, W4, ?_, eg2⟩
      rw [htk, ← Nat.add_assoc]
      exact V
  · rw [List.drop_of_length_le (by rw [hs.length]; exact Nat.le_refl _)] at eg
    have := q H' gd' wr' sp' M (by rw [eg]; exact W')
    rw [eg] at this
    exact this
/-- the deeds' names -/
def dN : Kw → Str
  | .read => "do_read"
  | .write => "do_write"
  | .lt => "do_let"
  | .tell => "do_tell"
  | .ite => "do_if"
  | .inner => "do_inner"
  | .out => "do_out"
  | .either => "do_either"
  | .retry => "do_retry"
theorem Cal.hld {x : Str} {ps : List Str} {sp : SpN} {f : Addr} (D : Cal P w K mg base k x ps sp) (h : mg x = some (.ref f)) : Hld P w K mg base k f sp := by
  obtain ⟨f', fd, a, b, c, d⟩ := D.ex
  have e : f' = f := by rw [a] at h; exact Value.ref.inj (Option.some.inj h)
  subst e
  exact ⟨fd, ps, d, b, c⟩
/-- what the top leaves of the walk -/
structure WalkTop (K : PySem.W.Frag) (w : World) (mg : Str → Option Value) (C : Addr) (fa : Kw → Addr) : Prop where
  c : Cls K C
  na : ∀ x : Str, x ∈ walkAtt → NoAttr K C x
  gd : mg "dict" = none
  at_ : ∀ kk, mg (dN kk) = some (.ref (fa kk))
  tab : HasTab K w mg "WORDS" kwN (fun kk => .ref (fa kk))
  reck : Fd K mg "reckoned" s_reckoned ["amount", "given"]
  read : Fd K mg "do_read" s_do_read ["walk", "rest"]
  write : Fd K mg "do_write" s_do_write ["walk", "rest"]
  lt : Fd K mg "do_let" s_do_let ["walk", "rest"]
  tell : Fd K mg "do_tell" s_do_tell ["walk", "rest"]
  ite : Fd K mg "do_if" s_do_if ["walk", "rest"]
  inner : Fd K mg "do_inner" s_do_inner ["walk", "rest"]
  out : Fd K mg "do_out" s_do_out ["walk", "rest"]
  either : Fd K mg "do_either" s_do_either ["walk", "rest"]
  retry : Fd K mg "do_retry" s_do_retry ["walk", "rest"]
  kept : MD K C "kept" "Walk.kept" sw_kept ["self"]
  back : MD K C "back_to" "Walk.back_to" sw_back_to ["self", "kept"]
  seen : MD K C "seen" "Walk.seen" sw_seen ["self", "cell"]
  go : MD K C "go" "Walk.go" sw_go ["self", "program"]
theorem ok_go {fa : Kw → Addr} (T : WalkTop K w mg C fa) : ∀ n, MCal P w K mg base C (2 * n + 8) "go" ["self", "program"] (spGo K C n)
  | 0 => T.go.none fun vs H Q ⟨_, _, _, _, _, _, _, _, _, _, _, _, _, _, h, _⟩ => absurd h (Nat.not_lt_zero _)
  | n + 1 => by
    have G := ok_go T n
    have R : Cal P w K mg base 4 "reckoned" ["amount", "given"] (spReck 4) := ok_reckoned T.reck 4
    have Kp : MCal P w K mg base C 1 "kept" ["self"] (spKept K C) := ok_wkept T.c T.na T.gd T.kept
    have B : MCal P w K mg base C 1 "back_to" ["self", "kept"] (spBack K C) := ok_wback T.c T.na T.gd T.back
    have S : MCal P w K mg base C 1 "seen" ["self", "cell"] (spSeen K C) := ok_wseen T.c T.na T.seen
    refine (ok_wgo (k := 2 * n + 9) T.c T.go T.tab ⟨fun kk => ?_⟩).mono (by omega)
    have at_ := T.at_ kk
    cases kk with
    | read => exact (ok_do_read (n := n) T.c T.na T.read (S.mono (show 1 ≤ 2 * n + 8 by omega))).hld at_
    | write => exact (ok_do_write (n := n) T.c T.na T.write (R.mono (show 4 ≤ 2 * n + 8 by omega))).hld at_
    | lt => exact (ok_do_let (n := n) T.c T.na T.lt (R.mono (show 4 ≤ 2 * n + 8 by omega))).hld at_
    | tell => exact (ok_do_tell (n := n) T.c T.na T.tell (R.mono (show 4 ≤ 2 * n + 8 by omega))).hld at_
    | ite => exact (ok_do_if T.c T.na T.ite (R.mono (show 4 ≤ 2 * n + 8 by omega)) G).hld at_
    | inner => exact (ok_do_inner T.c T.na T.inner (Kp.mono (show 1 ≤ 2 * n + 8 by omega)) (B.mono (show 1 ≤ 2 * n + 8 by omega)) G).hld at_
    | out => exact (ok_do_out (n := n) (k := 2 * n + 8) T.out).hld at_
    | either => exact (ok_do_either T.c T.na T.either (Kp.mono (show 1 ≤ 2 * n + 8 by omega)) (B.mono (show 1 ≤ 2 * n + 8 by omega)) G).hld at_
    | retry => exact (ok_do_retry (n := n) (k := 2 * n + 8) T.retry).hld at_
end
end Pk
-- ## PkWalked
set_option Elab.async false
set_option linter.all false
set_option maxRecDepth 100000
set_option maxHeartbeats 4000000
namespace Pk
open PySem PySem.Spec PyProof.Rows L2
def leftW : Left → Str
  | .fin => "ended"
  | .out => "dropped"
  | .retry => "retries"
theorem dec_leftW (a : Left) : decide (V.str (leftW a) = V.str "ended") = decide (a = .fin) := by
  cases a <;> rfl
def dPairs (l : List (Int × Int)) : PyData := .tuple (l.map fun p => .tuple [.int p.1, .int p.2])
def dInts (l : List Int) : PyData := .tuple (l.map .int)
/-- what a walk answers -/
def outD (r : Wk × Left) : PyData := .tuple [.str (leftW r.2), if r.2 = .fin then dInts r.1.spoke else dInts [], if r.2 = .fin then dPairs (srtI r.1.wrote) else dPairs [], dPairs (srtI r.1.saw)]
theorem dq_ints {K : PySem.W.Frag} {H : Hp} : ∀ l : List Int, DqAll K H (l.map V.int) (l.map PyData.int)
  | [] => .nil
  | i :: r => .cons (.int i) (dq_ints r)
theorem dq_pairs {K : PySem.W.Frag} {H : Hp} : ∀ ps : List (Addr × Int × Int), (∀ z ∈ ps, H z.1 = some (.tup [.int z.2.1, .int z.2.2])) → DqAll K H (ps.map fun z => V.ref z.1) ((ps.map (·.2)).map fun p => PyData.tuple [.int p.1, .int p.2])
  | [], _ => .nil
  | z :: r, h => .cons (.tup (SqT.of (h z List.mem_cons_self)) (.cons (.int _) (.cons (.int _) .nil))) (dq_pairs r fun y hy => h y (List.mem_cons_of_mem _ hy))
mutual
theorem Dq.same {K : PySem.W.Frag} {H H' : Hp} (e : Same H H') : ∀ (d : PyData) {v : V}, Dq K H v d → Dq K H' v d
  | .none, _, h => by cases h; exact .non
  | .bool b, _, h => by cases h; exact .bl b
  | .int i, _, h => by cases h; exact .int i
  | .str x, _, h => by cases h; exact .str x
  | .list ds, _, h => by
    cases h with
    | lst a b c => exact .lst (Same.seq e a) b (DqAll.same e ds c)
  | .tuple ds, _, h => by
    cases h with
    | tup a c => exact .tup (Same.sqT e a) (DqAll.same e ds c)
  | .dict ds, _, h => by
    cases h with
    | dict a c => exact .dict (e _ _ a) (DqKv.same e ds c)
theorem DqAll.same {K : PySem.W.Frag} {H H' : Hp} (e : Same H H') : ∀ (ds : List PyData) {vs : List V}, DqAll K H vs ds → DqAll K H' vs ds
  | [], _, h => by cases h; exact .nil
  | d :: ds, _, h => by
    cases h with
    | cons a b => exact .cons (Dq.same e d a) (DqAll.same e ds b)
theorem DqKv.same {K : PySem.W.Frag} {H H' : Hp} (e : Same H H') : ∀ (ds : List (PyData × PyData)) {kvs : List (Key × V)}, DqKv K H kvs ds → DqKv K H' kvs ds
  | [], _, h => by cases h; exact .nil
  | (_, d) :: ds, _, h => by
    cases h with
    | cons a b => exact .cons (Dq.same e d a) (DqKv.same e ds b)
end
abbrev N_walked : List Str := ["program", "cells", "slots", "walk", "word", "reads"]
theorem sc_walked : FnScope N_walked ["program", "cells", "slots"] (defScope s_walked) := ⟨rfl, rfl, rfl, by decide +kernel, rfl, by decide +kernel, by decide +kernel⟩
abbrev w0 (kvs : List (Str × Int)) : Wk := ⟨mrg kvs, [], [], []⟩
def spWalked (K : PySem.W.Frag) (n : Nat) : SpN := fun vs H Q => ∃ (p : List Stp) (v : V) (ba sl : Addr) (bs : List Int) (ps : List Addr) (kvs : List (Str × Int)), vs = [v, .ref ba, .ref sl] ∧ IsPr H p v ∧ SqT K H ba (bs.map V.int) ∧ TupD K H sl (ps.map V.ref) ∧ Paired (fun p (kv : Str × Int) => SqT K H p [.str kv.1, .int kv.2]) ps kvs ∧
  dep0 p < n ∧ cnt p ≤ 1000 ∧ okP bs.length p ∧ baseOk bs ∧ WB 0 (w0 kvs) ∧ ∀ H' u, Same H H' → Dq K H' (.ref u) (outD (go (opsW bs) p (w0 kvs))) → Q (.ref u) H'
section
variable {P : Program} {w : World} {K : PySem.W.Frag} {mg : Str → Option Value} {base : Heap} {C : Addr} {n k : Nat}
theorem fun_ok {N ps : List Str} {x qual : Str} {params : Arguments} {body : List Stmt} {scope : Scope} {dvs : List V} {kws : List (Str × V)} {f : Addr} {fd : FuncData} {sp : SpN} (F : FunD K x qual params body scope dvs kws f fd) (S : FnScope N ps scope) (len : ∀ vs H Q, sp vs H Q → vs.length = ps.length)
    (hbody : ∀ (cdv : Value) (A : Around) (outer : List Env) (s : Shared) (H : Hp) (vs : List V) (Q : VK) (E : XK), Room k (A.deeper (envOfC qual scope s.heap.objs.size f cdv)) → sp vs H Q →
      ∃ t, PSs (cxOf CX0 P w K mg base N qual scope f cdv A outer s H E).nox body t ∧ t { nx := fun _ H' => Q .non H', rt := Q } (start N vs) H) : FnOk P w K mg base CX0 (k + 1) f fd ps sp.up :=
  F.ok S (fun vs H Q E q => len vs H Q q) fun cdv A outer s H vs Q E hr q => by
    obtain ⟨t, h, z⟩ := hbody cdv A outer s H vs Q E hr q
    exact ⟨t, h.nox, z⟩
theorem ok_walked {fi fw : Addr} {fdi fdw : FuncData} {kws : List (Str × V)} (c : Cls K C) (na : ∀ x : Str, x ∈ walkAtt → NoAttr K C x) (gC : mg "Walk" = some (.ref C)) (M : Mk K C fi) (hbi : Binds K fdi ["self", "cells", "slots"] []) (Fi : FnOk P w K mg base CX0 1 fi fdi ["self", "cells", "slots"] (spInit K C).up)
    (F : FunD K "walked" "walked" (defArgs s_walked) (defBody s_walked) (defScope s_walked) [] kws fw fdw) (T : HasTab K w mg "LEFT" leftN (fun l => .str (leftW l))) (g1 : mg "sorted" = none) (g2 : mg "tuple" = none) (G : MCal P w K mg base C (k + 1) "go" ["self", "program"] (spGo K C n)) :
    FnOk P w K mg base CX0 (k + 3) fw fdw ["program", "cells", "slots"] (spWalked K n).up := by
  obtain ⟨d, hT, tab⟩ := T
  refine fun_ok (k := k + 2) F sc_walked (fun vs H Q ⟨p, v, ba, sl, bs, ps, kvs, h, _⟩ => by rw [h]; rfl) fun cdv A outer s9 H vs Q E hr h => ?_
  obtain ⟨p, v, ba, sl, bs, ps, kvs, rfl, hp, hb, hsl, hps, hd, hc, ho, hbo, wb, q⟩ := h
  have hr1 := hr.mono (show k + 1 ≤ k + 2 by omega)
  have hr0 := hr.mono (show 1 + 1 ≤ k + 2 by omega)
  refine ⟨_, pss_cons (ps_set (i := 3) sc_walked.nd rfl (.inl rfl) (pe_make (dvs := []) (E := E0) M Fi hr0 rfl gC hbi .nil pass0 (pa_cons (pv 1) (pa_cons (pv 2) pa_nil))))
    (pss_cons (ps_set (i := 4) sc_walked.nd rfl (.inl rfl) (pe_ix ix_kdict (pe_glob (v := .ref d) rfl hT rfl) (pe_mcal (pl := _) G c hr1 (pv 3) (pa_cons (pv 0) pa_nil)) (fun _ _ => rfl)))
    (pss_cons (ps_set (i := 5) sc_walked.nd rfl (.inl rfl) (pe_callTy call_tupleF (by rfl) g2 (by decide +kernel) (pa_cons (pe_callB (cr_sortI rfl) (by rfl) g1 (by decide +kernel) (pa_cons (pe_bm0 PySem.F.plainAttrs_dict PySem.F.slot_dict_items PySem.F.type_dict_items mt_itemsK (pe_fld (pv 3) rfl)) pa_nil)) pa_nil)))
    (pss_cons (ps_if (pt_cmpR op_ne (pv 4) pe_str (nomark _)) (pss_one (ps_ret (pe_tup (pa_cons (pv 4) (pa_cons (pe_tup pa_nil) (pa_cons (pe_tup pa_nil) (pa_cons (pv 5) pa_nil))))))) pss_nil)
    (pss_one (ps_ret (pe_tup (pa_cons (pv 4) (pa_cons (pe_fld (pv 3) rfl) (pa_cons (pe_callTy call_tupleF (by rfl) g2 (by decide +kernel) (pa_cons (pe_callB (cr_sortI rfl) (by rfl) g1 (by decide +kernel) (pa_cons (pe_bm0 PySem.F.plainAttrs_dict PySem.F.slot_dict_items PySem.F.type_dict_items mt_itemsK (pe_fld (pv 3) rfl)) pa_nil)) pa_nil)) (pa_cons (pv 5) pa_nil)))))))))), ?_⟩
  have n3 := na "wrote" (by simp)
  have n4 := na "spoke" (by simp)
  have n5 := na "saw" (by simp)
  refine ⟨_, rfl, _, rfl, fun x dx nx ndx hne => ?_⟩
  have nx0 := nx
  have sx : Same H (upd (upd H dx (.own x)) x (.ins C dx [])) := same_set (same_upd ndx) nx
  have hx : upd (upd H dx (.own x)) x (.ins C dx []) x = some (.ins C dx []) := upd_same
  generalize upd (upd H dx (.own x)) x (.ins C dx []) = H1 at sx hx
  refine ⟨x, dx, ba, sl, bs, ps, kvs, rfl, hx, Same.sqT sx hb, hsl.keep fun o u h => sx _ _ h, paired_imp (fun a b h => Same.sqT sx h) hps, fun H2 gd wr sp sa k2 ng nw ns W2 => ⟨rfl, ?_⟩⟩
  have s2 : Same H H2 := fun b o e => k2 b o (fun z => by rw [z, nx] at e; cases e) (sx _ _ e)
  have f1 : ∀ b, H1 b = none → H b = none := fun b h => by
    cases e : H b with
    | none => rfl
    | some o => rw [sx _ _ e] at h; cases h
  have hbm : bs.length ≤ 10 := hbo.2
  refine ⟨_, rfl, x, dx, _, rfl, W2.at_, rfl, _, rfl, x, dx, ba, gd, wr, sp, sa, bs, w0 kvs, p, v, rfl, ⟨W2, hbo, 0, wb, by omega⟩, hp.mono (Same.tle s2), hd, ho, fun H3 gd3 wr3 sp3 M3 W3 => ?_⟩
  generalize hgo : go (opsW bs) p (w0 kvs) = r at W3 q
  obtain ⟨st, lf⟩ := r
  refine ⟨d, _, .str (leftW lf), rfl, rfl, tab lf, ?_⟩
  have s3 : Same H H3 := fun b o e => by
    refine M3.but b o (s2 _ _ e) (fun z => ?_) (fun z => ?_) (fun z => ?_) (fun z => ?_)
    · rw [z, nx0] at e; cases e
    · rw [z, f1 _ ng] at e; cases e
    · rw [z, f1 _ nw] at e; cases e
    · rw [z, f1 _ ns] at e; cases e
  refine ⟨_, rfl, x, C, dx, _, .ref sa, rfl, W3.at_, c, n5, rfl, .inr (.inr (.inl ⟨rfl, .inl ⟨_, W3.r⟩⟩)), sa, _, rfl, rfl, W3.r, fun pu npu => ?_⟩
  have e1u := same_upd (o := DX.itemsO pu sa) npu
  refine ⟨pu, sa, st.saw, rfl, upd_same, e1u _ _ (W3.r), fun H5u lu zsu s5u hlu hzu hzsu => ?_⟩
  refine ⟨lu, _, rfl, SqL.of hlu, fun u ou nuu odu => ?_⟩
  have e2u := same_upd (o := .frz ou (.tup (zsu.map fun z => V.ref z.1))) nuu
  have hu : Dq K (upd H5u u (.frz ou (.tup (zsu.map fun z => V.ref z.1)))) (.ref u) (dPairs (srtI st.saw)) := by
    refine .tup (.inl (.inr ⟨ou, upd_same⟩)) ?_
    rw [← hzu]
    exact dq_pairs zsu fun z hz => e2u _ _ (hzsu z hz)
  have s4 := Same.trans e1u (Same.trans s5u e2u)
  generalize upd H5u u (.frz ou (.tup (zsu.map fun z => V.ref z.1))) = H4 at hu s4
  have s04 := Same.trans s3 s4
  refine ⟨_, rfl, rfl, _, rfl, ?_⟩
  rw [dec_leftW]
  refine ite2 (fun c1 => ?_) (fun c1 => ?_)
  · have hne : lf ≠ .fin := by simpa using c1
    refine ⟨_, rfl, Nat.zero_le _, fun a1 na1 => ⟨Nat.zero_le _, fun a2 na2 => ⟨_, rfl, by show 4 ≤ sizeLine; decide, fun t nt => ?_⟩⟩⟩
    have e1 := same_upd (o := .tup []) na1
    have e2 := same_upd (o := .tup []) na2
    have e3 := same_upd (o := .tup [.str (leftW lf), .ref a1, .ref a2, .ref u]) nt
    refine q _ t (Same.trans s04 (Same.trans e1 (Same.trans e2 e3))) ?_
    have t1 : Dq K (upd (upd (upd H4 a1 (.tup [])) a2 (.tup [])) t (.tup [.str (leftW lf), .ref a1, .ref a2, .ref u])) (.ref a1) (.tuple []) := .tup (SqT.of (e3 _ _ (e2 _ _ upd_same))) .nil
    have t2 : Dq K (upd (upd (upd H4 a1 (.tup [])) a2 (.tup [])) t (.tup [.str (leftW lf), .ref a1, .ref a2, .ref u])) (.ref a2) (.tuple []) := .tup (SqT.of (e3 _ _ upd_same)) .nil
    have t3 := Dq.same (Same.trans e1 (Same.trans e2 e3)) _ hu
    refine .tup (SqT.of upd_same) (.cons (.str _) (.cons ?_ (.cons ?_ (.cons t3 .nil))))
    · rw [if_neg hne]; exact t1
    · rw [if_neg hne]; exact t2
  · have heq : lf = .fin := by simpa using c1
    subst heq
    refine ⟨_, rfl, _, rfl, x, C, dx, _, .ref sp3, rfl, s4 _ _ W3.at_, c, n4, rfl, ?_⟩
    refine ⟨_, rfl, x, C, dx, _, .ref wr3, rfl, s4 _ _ W3.at_, c, n3, rfl, .inr (.inr (.inl ⟨rfl, .inl ⟨_, s4 _ _ W3.w⟩⟩)), wr3, _, rfl, rfl, s4 _ _ W3.w, fun pu2 npu2 => ?_⟩
    have e1u2 := same_upd (o := DX.itemsO pu2 wr3) npu2
    refine ⟨pu2, wr3, st.wrote, rfl, upd_same, e1u2 _ _ (s4 _ _ W3.w), fun H5u2 lu2 zsu2 s5u2 hlu2 hzu2 hzsu2 => ?_⟩
    refine ⟨lu2, _, rfl, SqL.of hlu2, fun u2 ou2 nuu2 odu2 => ?_⟩
    have e2u2 := same_upd (o := .frz ou2 (.tup (zsu2.map fun z => V.ref z.1))) nuu2
    have hu2 : Dq K (upd H5u2 u2 (.frz ou2 (.tup (zsu2.map fun z => V.ref z.1)))) (.ref u2) (dPairs (srtI st.wrote)) := by
      refine .tup (.inl (.inr ⟨ou2, upd_same⟩)) ?_
      rw [← hzu2]
      exact dq_pairs zsu2 fun z hz => e2u2 _ _ (hzsu2 z hz)
    have s5 := Same.trans e1u2 (Same.trans s5u2 e2u2)
    generalize upd H5u2 u2 (.frz ou2 (.tup (zsu2.map fun z => V.ref z.1))) = H5 at hu2 s5
    refine ⟨_, rfl, by show 4 ≤ sizeLine; decide, fun t nt => ?_⟩
    have e3 := same_upd (o := .tup [.str (leftW .fin), .ref sp3, .ref u2, .ref u]) nt
    refine q _ t (Same.trans s04 (Same.trans s5 e3)) ?_
    refine .tup (SqT.of upd_same) (.cons (.str _) (.cons ?_ (.cons ?_ (.cons (Dq.same (Same.trans s5 e3) _ hu) .nil))))
    · rw [if_pos rfl]
      exact .tup (SqT.of (e3 _ _ (s5 _ _ (s4 _ _ W3.t)))) (dq_ints _)
    · rw [if_pos rfl]
      exact Dq.same e3 _ hu2
end
end Pk
-- ## PkFeed
set_option Elab.async false
set_option linter.all false
set_option maxRecDepth 100000
set_option maxHeartbeats 4000000
namespace Pk
open PySem PySem.Spec PyProof.Rows L2
/-! ### the law's draws -/
def fdT (cl : Addr) (a l c : Int) : List (Key × V) := [(Sum.inr "cells", .ref cl), (Sum.inr "at", .int a), (Sum.inr "left", .int l), (Sum.inr "count", .int c)]
theorem fd_cells (cl : Addr) (a l c : Int) : valV (fdT cl a l c) (Sum.inr "cells") = some (.ref cl) := rfl
theorem fd_at (cl : Addr) (a l c : Int) : valV (fdT cl a l c) (Sum.inr "at") = some (.int a) := rfl
theorem fd_left (cl : Addr) (a l c : Int) : valV (fdT cl a l c) (Sum.inr "left") = some (.int l) := rfl
theorem fd_count (cl : Addr) (a l c : Int) : valV (fdT cl a l c) (Sum.inr "count") = some (.int c) := rfl
theorem fd_pat (cl : Addr) (a l c x : Int) : putK (fdT cl a l c) (Sum.inr "at") (.int x) = fdT cl x l c := rfl
theorem fd_pleft (cl : Addr) (a l c x : Int) : putK (fdT cl a l c) (Sum.inr "left") (.int x) = fdT cl a x c := rfl
theorem fd_pcount (cl : Addr) (a l c x : Int) : putK (fdT cl a l c) (Sum.inr "count") (.int x) = fdT cl a l x := rfl
/-- the feed at fd: any cells, any place -/
def IsFd (H : Hp) (fd cl : Addr) : Prop := ∃ (a l c : Int) (cs : List Int), H fd = some (.dK (fdT cl a l c)) ∧ H cl = some (.lst (cs.map V.int))
theorem IsFd.same {H H' : Hp} {fd cl : Addr} (h : IsFd H fd cl) (e : Same H H') : IsFd H' fd cl := by
  obtain ⟨a, l, c, cs, h1, h2⟩ := h
  exact ⟨a, l, c, cs, e _ _ h1, e _ _ h2⟩
theorem IsFd.ne_tup {H : Hp} {fd cl b : Addr} {xs : List V} (h : IsFd H fd cl) (e : H b = some (.tup xs)) : b ≠ fd := by
  obtain ⟨a, l, c, cs, h1, h2⟩ := h
  intro z
  rw [z, h1] at e
  cases e
theorem IsFd.ne_lst {H : Hp} {fd cl b : Addr} {xs : List V} (h : IsFd H fd cl) (e : H b = some (.lst xs)) : b ≠ fd := by
  obtain ⟨a, l, c, cs, h1, h2⟩ := h
  intro z
  rw [z, h1] at e
  cases e
theorem IsFd.tle {H H' : Hp} {fd cl : Addr} (h : IsFd H fd cl) (b : But (· = fd) H H') : TLe H H' := fun x xs e => b x _ e (h.ne_tup e)
theorem IsFd.none {H : Hp} {fd cl p : Addr} (h : IsFd H fd cl) (n : H p = none) : p ≠ fd := by
  obtain ⟨a, l, c, cs, h1, h2⟩ := h
  intro z
  rw [z, h1] at n
  cases n
abbrev N_law_feed : List Str := ["_law_script"]
theorem sc_law_feed : FnScope N_law_feed ["_law_script"] (defScope s_law_feed) := ⟨rfl, rfl, rfl, by decide +kernel, rfl, by decide +kernel, by decide +kernel⟩
abbrev N_law_draw : List Str := ["_law_feed_here", "_law_many", "_law_figure", "_law_at", "_law_cell", "_law_mixed"]
theorem sc_law_draw : FnScope N_law_draw ["_law_feed_here", "_law_many"] (defScope s_law_draw) := ⟨rfl, rfl, rfl, by decide +kernel, rfl, by decide +kernel, by decide +kernel⟩
def spFeed (K : PySem.W.Frag) : SpN := fun vs H Q => ∃ (a : Addr) (ns : List Int), vs = [.ref a] ∧ SqL K H a (ns.map V.int) ∧ ∀ H' fd cl, Same H H' → H fd = none → H cl = none → IsFd H' fd cl → Q (.ref fd) H'
def spDraw : SpN := fun vs H Q => ∃ (fd cl : Addr) (m : Int), vs = [.ref fd, .int m] ∧ IsFd H fd cl ∧ 0 < m ∧ m < 1073741824 ∧ ∀ H' r, But (· = fd) H H' → IsFd H' fd cl → 0 ≤ r → r < m → Q (.int r) H'
section
variable {P : Program} {w : World} {K : PySem.W.Frag} {mg : Str → Option Value} {base : Heap} {k : Nat}
theorem cut_ints (ns : List Int) : cutV (ns.map V.int) none (some 63) = (ns.take 63).map V.int := by
  rw [show (63 : Int) = ((63 : Nat) : Int) from rfl, cut_to, List.map_take]
theorem ok_law_feed (F : Fd K mg "_law_feed" s_law_feed ["_law_script"]) (gl : mg "list" = none) : Cal P w K mg base (k + 1) "_law_feed" ["_law_script"] (spFeed K) := by
  refine F.ok sc_law_feed (fun vs H Q ⟨_, _, h, _⟩ => by rw [h]; rfl) fun f cdv A outer s0 H vs Q E hr h => ?_
  obtain ⟨a, ns, rfl, ha, q⟩ := h
  refine ⟨_, pss_one (ps_ret (pe_disp (pps_cons pe_str (pe_callTy call_list_of (by rfl) gl (by decide +kernel) (pa_cons (pe_slice sl_list (pv 0) po_none (po_some pe_int)) pa_nil)) (pps_cons pe_str pe_int (pps_cons pe_str pe_int (pps_cons pe_str pe_int pps_nil)))) rfl rfl (by simp) (by simp))), ?_⟩
  intro p np
  have sp := same_upd (o := .dK []) np
  have hp : upd H p (.dK []) p = some (.dK []) := upd_same
  generalize upd H p (.dK []) = H1 at sp hp
  refine ⟨_, rfl, _, rfl, a, _, rfl, Same.seq sp ha, fun b nb => ?_⟩
  rw [cut_ints]
  have sb := same_upd (o := .lst ((ns.take 63).map V.int)) nb
  have hb : upd H1 b (.lst ((ns.take 63).map V.int)) b = some (.lst ((ns.take 63).map V.int)) := upd_same
  have hp2 := sb _ _ hp
  generalize upd H1 b (.lst ((ns.take 63).map V.int)) = H2 at sb hb hp2
  refine ⟨b, _, rfl, .inl (SqL.of hb), fun cl nc => ?_⟩
  have sc := same_upd (o := .lst ((ns.take 63).map V.int)) nc
  have hc : upd H2 cl (.lst ((ns.take 63).map V.int)) cl = some (.lst ((ns.take 63).map V.int)) := upd_same
  have hp3 := sc _ _ hp2
  have s3 := Same.trans sp (Same.trans sb sc)
  generalize upd H2 cl (.lst ((ns.take 63).map V.int)) = H3 at sc hc hp3 s3
  refine ⟨hp3, fdT cl 0 0 0, rfl, by show 4 ≤ 15; omega, ?_⟩
  have nc0 : H cl = none := by
    cases e : H cl with
    | none => rfl
    | some o => rw [Same.trans sp sb _ _ e] at nc; cases nc
  refine q _ p cl (same_set s3 np) np nc0 ⟨0, 0, 0, ns.take 63, upd_same, ?_⟩
  rw [upd_ne (fun z => by rw [z, hp3] at hc; cases hc)]
  exact hc
theorem get_fd {H : Hp} {fd cl : Addr} {a l c : Int} (h : H fd = some (.dK (fdT cl a l c))) : DGet H fd (.str "cells") (some (.ref cl)) ∧ DGet H fd (.str "at") (some (.int a)) ∧ DGet H fd (.str "left") (some (.int l)) ∧ DGet H fd (.str "count") (some (.int c)) :=
  ⟨DGet.k (k := Sum.inr "cells") h, DGet.k (k := Sum.inr "at") h, DGet.k (k := Sum.inr "left") h, DGet.k (k := Sum.inr "count") h⟩
theorem put_fd {H : Hp} {fd cl : Addr} {a l c : Int} (h : H fd = some (.dK (fdT cl a l c))) (x : Int) : DPut H fd (.str "at") (.int x) (upd H fd (.dK (fdT cl x l c))) ∧ DPut H fd (.str "left") (.int x) (upd H fd (.dK (fdT cl a x c))) ∧ DPut H fd (.str "count") (.int x) (upd H fd (.dK (fdT cl a l x))) :=
  ⟨DPut.k (k := Sum.inr "at") h (by show 4 < sizeLine; decide), DPut.k (k := Sum.inr "left") h (by show 4 < sizeLine; decide), DPut.k (k := Sum.inr "count") h (by show 4 < sizeLine; decide)⟩
theorem but_fd {H H' : Hp} {fd : Addr} {o : HO} (b : But (· = fd) H H') : But (· = fd) H (upd H' fd o) := fun x ob h n => by
  rw [upd_ne n]
  exact b x ob h n
theorem ok_law_draw (F : Fd K mg "_law_draw" s_law_draw ["_law_feed_here", "_law_many"]) (gn : mg "len" = none) : Cal P w K mg base (k + 1) "_law_draw" ["_law_feed_here", "_law_many"] spDraw := by
  refine F.ok sc_law_draw (fun vs H Q ⟨_, _, _, h, _⟩ => by rw [h]; rfl) fun f cdv A outer s0 H vs Q E hr h => ?_
  obtain ⟨fd, cl, m, rfl, ⟨a, l, ct, cs, hfd, hcl⟩, m0, m1, q⟩ := h
  have hget : ∀ x : Str, NoSl (.Constant (.str x) 0 ⟨0, 0, 0, 0⟩) := fun x => fun _ _ => rfl
  refine ⟨_, pss_cons (ps_dput (u1 hr) (pv 0) pe_str (pe_op op_add (pe_dget (u1 hr) (pv 0) pe_str (fun _ _ => rfl)) pe_int) rfl)
    (pss_cons (ps_if (pt_cmpR op_gt (pe_dget (u1 hr) (pv 0) pe_str (fun _ _ => rfl)) pe_int (nomark _))
      (pss_cons (ps_set (i := 2) sc_law_draw.nd rfl (.inl rfl) (pe_op op_mod (pe_dget (u1 hr) (pv 0) pe_str (fun _ _ => rfl)) (pv 1)))
      (pss_cons (ps_dput (u1 hr) (pv 0) pe_str (pe_op op_fdiv (pe_dget (u1 hr) (pv 0) pe_str (fun _ _ => rfl)) (pv 1)) rfl)
      (pss_one (ps_ret (pv 2))))) pss_nil)
    (pss_cons (ps_set (i := 3) sc_law_draw.nd rfl (.inl rfl) (pe_dget (u1 hr) (pv 0) pe_str (fun _ _ => rfl)))
    (pss_cons (ps_dput (u1 hr) (pv 0) pe_str (pe_op op_add (pv 3) pe_int) rfl)
    (pss_cons (ps_set (i := 4) sc_law_draw.nd rfl (.inl rfl) (pe_ifExp (pt_cmpR (op_ne0L hr.units0) (pe_dget (u1 hr) (pv 0) pe_str (fun _ _ => rfl)) (pe_lst pa_nil) (nomark _))
      (pe_ix ix_list (pe_dget (u1 hr) (pv 0) pe_str (fun _ _ => rfl)) (pe_op op_mod (pv 3) (pe_callB call_len_seq (by rfl) gn (by decide +kernel) (pa_cons (pe_dget (u1 hr) (pv 0) pe_str (fun _ _ => rfl)) pa_nil))) (fun _ _ => rfl)) pe_int))
    (pss_cons (ps_if (PW.pt (pw_and (pt_cmpR op_ge (pv 4) (pe_op op_pow pe_int pe_int) (nomark _)) (pw_and1 (pt_cmpR op_lt (pv 3) (pe_callB call_len_seq (by rfl) gn (by decide +kernel) (pa_cons (pe_dget (u1 hr) (pv 0) pe_str (fun _ _ => rfl)) pa_nil)) (nomark _)))))
      (pss_cons (ps_dput (u1 hr) (pv 0) pe_str (pe_op op_fdiv (pv 4) (pv 1)) rfl)
      (pss_one (ps_ret (pe_op op_mod (pv 4) (pv 1))))) pss_nil)
    (pss_cons (ps_set (i := 5) sc_law_draw.nd rfl (.inl rfl) (pe_op op_mod (pe_op op_add (pe_op op_add (pe_op op_mod (pv 4) pe_int) (pe_op op_mul pe_int (pe_dget (u1 hr) (pv 0) pe_str (fun _ _ => rfl)))) pe_int) pe_int))
    (pss_cons (ps_set (i := 5) sc_law_draw.nd rfl (.inl rfl) (pe_op op_mod (pe_op op_add (pe_op op_add (pe_op op_mul (pv 5) (pv 5)) (pe_op op_mul pe_int (pe_dget (u1 hr) (pv 0) pe_str (fun _ _ => rfl)))) pe_int) pe_int))
    (pss_one (ps_ret (pe_op op_mod (pe_op op_fdiv (pe_op op_mod (pe_op op_add (pe_op op_mul (pv 5) (pv 5)) (pe_op op_mul pe_int (pv 5))) pe_int) pe_int) (pv 1))))))))))), ?_⟩
  have hcf : cl ≠ fd := fun z => by rw [z, hfd] at hcl; cases hcl
  obtain ⟨_, _, _, gc⟩ := get_fd hfd
  refine ⟨_, rfl, fd, _, rfl, gc, _, _, rfl, rfl, _, rfl, fd, _, rfl, (put_fd hfd (ct + 1)).2.2, ?_⟩
  have b1 : But (· = fd) H (upd H fd (.dK (fdT cl a l (ct + 1)))) := but_fd (But.refl H)
  have hfd1 : upd H fd (.dK (fdT cl a l (ct + 1))) fd = some (.dK (fdT cl a l (ct + 1))) := upd_same
  generalize upd H fd (.dK (fdT cl a l (ct + 1))) = H1 at b1 hfd1
  generalize hct : ct + 1 = c1 at hfd1
  have hcl1 := b1 _ _ hcl hcf
  obtain ⟨gcl, ga, gl, gct⟩ := get_fd hfd1
  refine ⟨_, rfl, fd, _, rfl, gl, _, _, rfl, rfl, _, rfl, ?_⟩
  refine ite2 (fun _ => ?_) (fun _ => ?_)
  · refine ⟨_, rfl, fd, _, rfl, gl, _, rfl, _, _, rfl, rfl, m0, ?_⟩
    refine ⟨_, rfl, fd, _, rfl, gl, _, rfl, _, _, rfl, rfl, ⟨m0, m1⟩, _, rfl, fd, _, rfl, (put_fd hfd1 (l / m)).2.1, ?_⟩
    exact ⟨_, rfl, q _ (l % m) (but_fd b1) ⟨a, l / m, c1, cs, upd_same, by rw [upd_ne hcf]; exact hcl1⟩ (Int.emod_nonneg _ (by omega)) (Int.emod_lt_of_pos _ m0)⟩
  · refine ⟨_, rfl, fd, _, rfl, ga, ?_⟩
    refine ⟨_, rfl, _, _, rfl, rfl, _, rfl, fd, _, rfl, (put_fd hfd1 (a + 1)).1, ?_⟩
    have b2 : But (· = fd) H (upd H1 fd (.dK (fdT cl (a + 1) l c1))) := but_fd b1
    have hfd2 : upd H1 fd (.dK (fdT cl (a + 1) l c1)) fd = some (.dK (fdT cl (a + 1) l c1)) := upd_same
    have hcl2 : upd H1 fd (.dK (fdT cl (a + 1) l c1)) cl = some (.lst (cs.map V.int)) := by rw [upd_ne hcf]; exact hcl1
    generalize upd H1 fd (.dK (fdT cl (a + 1) l c1)) = H2 at b2 hfd2 hcl2
    obtain ⟨gcl2, _, _, _⟩ := get_fd hfd2
    -- behind the cell: any heap, any cell
    have rest : ∀ H3 (x : Int), But (· = fd) H H3 → H3 fd = some (.dK (fdT cl (a + 1) l c1)) → H3 cl = some (.lst (cs.map V.int)) → tSeq (tIfS (tAnd (tTest (tOp (rI0 fun i j => .bl (decide (j ≤ i))) (tVar 4) (tOp (rI CPow fun i j => .int (i ^ j.toNat)) (tC (.int 10)) (tC (.int 18))))) (tTest (tOp (rI0 fun i j => .bl (decide (i < j))) (tVar 3) (tCB (fun xs H Q => ∃ p ys, xs = [V.ref p] ∧ (SqL K H p ys ∨ SqT K H p ys) ∧ Q (.int ys.length) H) (tCons (tDGet (tVar 0) (tC (.str "cells"))) tNil)))))
        (tSeq (sDPut (tVar 0) (tC (.str "left")) (tOp (rI CDiv fun i j => .int (i / j)) (tVar 4) (tVar 1))) (tRet (tOp (rI (fun _ j => 0 < j) fun i j => .int (i % j)) (tVar 4) (tVar 1)))) tNext)
        (tSeq (tAsg (tOp (rI (fun _ j => 0 < j) fun i j => .int (i % j)) (tOp (rI0 fun i j => .int (i + j)) (tOp (rI0 fun i j => .int (i + j)) (tOp (rI (fun _ j => 0 < j) fun i j => .int (i % j)) (tVar 4) (tC (.int 1000000087))) (tOp (rI CMul fun i j => .int (i * j)) (tC (.int 80021)) (tDGet (tVar 0) (tC (.str "count"))))) (tC (.int 41))) (tC (.int 2147483579))) (gName 5))
        (tSeq (tAsg (tOp (rI (fun _ j => 0 < j) fun i j => .int (i % j)) (tOp (rI0 fun i j => .int (i + j)) (tOp (rI0 fun i j => .int (i + j)) (tOp (rI CMul fun i j => .int (i * j)) (tVar 5) (tVar 5)) (tOp (rI CMul fun i j => .int (i * j)) (tC (.int 5915587)) (tDGet (tVar 0) (tC (.str "count"))))) (tC (.int 11))) (tC (.int 2147483549))) (gName 5))
        (tRet (tOp (rI (fun _ j => 0 < j) fun i j => .int (i % j)) (tOp (rI CDiv fun i j => .int (i / j)) (tOp (rI (fun _ j => 0 < j) fun i j => .int (i % j)) (tOp (rI0 fun i j => .int (i + j)) (tOp (rI CMul fun i j => .int (i * j)) (tVar 5) (tVar 5)) (tOp (rI CMul fun i j => .int (i * j)) (tC (.int 19)) (tVar 5))) (tC (.int 2147483543))) (tC (.int 16))) (tVar 1)))))
        { nx := fun _ H' => Q .non H', rt := Q } [some (.ref fd), some (.int m), none, some (.int a), some (.int x), none] H3 := fun H3 x b3 hfd3 hcl3 => by
      obtain ⟨gcl3, _, _, gct3⟩ := get_fd hfd3
      have hfd3' : IsFd H3 fd cl := ⟨a + 1, l, c1, cs, hfd3, hcl3⟩
      have mix : tSeq (tAsg (tOp (rI (fun _ j => 0 < j) fun i j => .int (i % j)) (tOp (rI0 fun i j => .int (i + j)) (tOp (rI0 fun i j => .int (i + j)) (tOp (rI (fun _ j => 0 < j) fun i j => .int (i % j)) (tVar 4) (tC (.int 1000000087))) (tOp (rI CMul fun i j => .int (i * j)) (tC (.int 80021)) (tDGet (tVar 0) (tC (.str "count"))))) (tC (.int 41))) (tC (.int 2147483579))) (gName 5))
        (tSeq (tAsg (tOp (rI (fun _ j => 0 < j) fun i j => .int (i % j)) (tOp (rI0 fun i j => .int (i + j)) (tOp (rI0 fun i j => .int (i + j)) (tOp (rI CMul fun i j => .int (i * j)) (tVar 5) (tVar 5)) (tOp (rI CMul fun i j => .int (i * j)) (tC (.int 5915587)) (tDGet (tVar 0) (tC (.str "count"))))) (tC (.int 11))) (tC (.int 2147483549))) (gName 5))
        (tRet (tOp (rI (fun _ j => 0 < j) fun i j => .int (i % j)) (tOp (rI CDiv fun i j => .int (i / j)) (tOp (rI (fun _ j => 0 < j) fun i j => .int (i % j)) (tOp (rI0 fun i j => .int (i + j)) (tOp (rI CMul fun i j => .int (i * j)) (tVar 5) (tVar 5)) (tOp (rI CMul fun i j => .int (i * j)) (tC (.int 19)) (tVar 5))) (tC (.int 2147483543))) (tC (.int 16))) (tVar 1))))
        { nx := fun _ H' => Q .non H', rt := Q } [some (.ref fd), some (.int m), none, some (.int a), some (.int x), none] H3 := by
        refine ⟨_, rfl, _, _, rfl, rfl, (show (0 : Int) < 1000000087 by decide), _, rfl, fd, _, rfl, gct3, _, _, rfl, rfl, .inl ⟨by decide, by decide⟩, _, _, rfl, rfl, _, _, rfl, rfl, _, _, rfl, rfl, (show (0 : Int) < 2147483579 by decide), ?_⟩
        have k1 := Int.emod_nonneg (x % 1000000087 + 80021 * c1 + 41) (show (2147483579 : Int) ≠ 0 by decide)
        have k2 := Int.emod_lt_of_pos (x % 1000000087 + 80021 * c1 + 41) (show (0 : Int) < 2147483579 by decide)
        generalize (x % 1000000087 + 80021 * c1 + 41) % 2147483579 = y at k1 k2
        refine ⟨_, rfl, _, rfl, _, _, rfl, rfl, .inl ⟨by omega, by omega⟩, _, rfl, fd, _, rfl, gct3, _, _, rfl, rfl, .inl ⟨by decide, by decide⟩, _, _, rfl, rfl, _, _, rfl, rfl, _, _, rfl, rfl, (show (0 : Int) < 2147483549 by decide), ?_⟩
        have k3 := Int.emod_nonneg (y * y + 5915587 * c1 + 11) (show (2147483549 : Int) ≠ 0 by decide)
        have k4 := Int.emod_lt_of_pos (y * y + 5915587 * c1 + 11) (show (0 : Int) < 2147483549 by decide)
        generalize (y * y + 5915587 * c1 + 11) % 2147483549 = z at k3 k4
        refine ⟨_, rfl, _, rfl, _, _, rfl, rfl, .inl ⟨by omega, by omega⟩, _, rfl, _, _, rfl, rfl, .inl ⟨by decide, by decide⟩, _, _, rfl, rfl, _, _, rfl, rfl, (show (0 : Int) < 2147483543 by decide), _, _, rfl, rfl, ⟨by decide, by decide⟩, _, rfl, _, _, rfl, rfl, m0, ?_⟩
        exact q H3 _ b3 hfd3' (Int.emod_nonneg _ (by omega)) (Int.emod_lt_of_pos _ m0)
      refine ⟨_, rfl, _, _, rfl, rfl, ⟨by decide, by decide, by decide⟩, _, _, rfl, rfl, _, rfl, ?_⟩
      refine ite2 (fun _ => ?_) (fun _ => mix)
      refine ⟨_, rfl, _, rfl, fd, _, rfl, gcl3, cl, _, rfl, .inl (SqL.of hcl3), _, _, rfl, rfl, _, rfl, ?_⟩
      refine ite2 (fun _ => ?_) (fun _ => mix)
      refine ⟨_, rfl, _, rfl, _, _, rfl, rfl, ⟨m0, m1⟩, _, rfl, fd, _, rfl, (put_fd hfd3 (x / m)).2.1, ?_⟩
      exact ⟨_, rfl, _, rfl, _, _, rfl, rfl, m0, q _ (x % m) (but_fd b3) ⟨a + 1, x / m, c1, cs, upd_same, by rw [upd_ne hcf]; exact hcl3⟩ (Int.emod_nonneg _ (by omega)) (Int.emod_lt_of_pos _ m0)⟩
    refine ⟨_, rfl, fd, _, rfl, gcl2, Nat.zero_le _, fun e ne => ⟨cl, e, _, rfl, rfl, SqL.of (same_upd ne _ _ hcl2), SqL.of upd_same, _, rfl, ?_⟩⟩
    have se := same_upd (o := .lst []) ne
    have b3 : But (· = fd) H (upd H2 e (.lst [])) := b2.trans (Same.but se)
    have hfd3 := se _ _ hfd2
    have hcl3 := se _ _ hcl2
    generalize upd H2 e (.lst []) = H3 at b3 hfd3 hcl3
    obtain ⟨gcl3, _, _, _⟩ := get_fd hfd3
    refine ite2 (fun c => ?_) (fun c => rest H3 9 b3 hfd3 hcl3)
    have hne : cs ≠ [] := fun z => by rw [z] at c; simp at c
    have hl : 0 < ((cs.map V.int).length : Int) := by
      rw [List.length_map]
      have := List.length_pos_iff.mpr hne
      omega
    have i0 := Int.emod_nonneg a (show ((cs.map V.int).length : Int) ≠ 0 by omega)
    have i1 := Int.emod_lt_of_pos a hl
    obtain ⟨j, hj⟩ : ∃ j : Nat, a % ((cs.map V.int).length : Int) = (j : Int) := ⟨(a % ((cs.map V.int).length : Int)).toNat, by omega⟩
    have hjl : j < cs.length := by rw [hj, List.length_map] at i1; omega
    refine ⟨_, rfl, fd, _, rfl, gcl3, _, rfl, _, rfl, fd, _, rfl, gcl3, cl, _, rfl, .inl (SqL.of hcl3), _, _, rfl, rfl, hl, cl, _, _, .int cs[j], rfl, rfl, SqL.of hcl3, ?_, rest H3 _ b3 hfd3 hcl3⟩
    rw [hj]
    exact atI_nat (by rw [List.getElem?_map, List.getElem?_eq_getElem hjl]; rfl)
end
end Pk
-- ## PkSum
set_option Elab.async false
set_option linter.all false
set_option maxRecDepth 100000
set_option maxHeartbeats 4000000
namespace Pk
open PySem PySem.Spec PyProof.Rows L2
abbrev N_law_number : List Str := ["_law_feed_here", "_law_few", "_law_some"]
theorem sc_law_number : FnScope N_law_number ["_law_feed_here"] (defScope s_law_number) := ⟨rfl, rfl, rfl, by decide +kernel, rfl, by decide +kernel, by decide +kernel⟩
abbrev N_law_sum : List Str := ["_law_feed_here", "_law_names_here", "_law_within", "_law_word", "_law_one"]
theorem sc_law_sum : FnScope N_law_sum ["_law_feed_here", "_law_names_here", "_law_within"] (defScope s_law_sum) := ⟨rfl, rfl, rfl, by decide +kernel, rfl, by decide +kernel, by decide +kernel⟩
/-- a short text -/
def gX (x : Str) : Prop := x.cps.size ≤ 8 ∧ (x.cps.toList.all fun c => decide (c < 16 ^ 8)) = true
def smX : Sm → Prop
  | .num _ => True
  | .slot x => gX x
  | .bin _ a b => smX a ∧ smX b
def tX : Stp → Prop
  | .read x _ => gX x
  | .write _ a => smX a
  | .lt x a => gX x ∧ smX a
  | .tell a => smX a
  | _ => True
def fA (a : Sm) : Prop := okA a ∧ smX a
def fS (m : Nat) (s : Stp) : Prop := okS m s ∧ tX s
/-- all that is asked of a drawn program -/
abbrev okF (m : Nat) (p : List Stp) : Prop := allP (fS m) fA p
mutual
theorem allS_imp {φ φ' : Stp → Prop} {ψ ψ' : Sm → Prop} (h1 : ∀ s, φ s → φ' s) (h2 : ∀ a, ψ a → ψ' a) : ∀ {s : Stp}, allS φ ψ s → allS φ' ψ' s
  | .ite a p q, h => ⟨h2 a h.1, allP_imp h1 h2 h.2.1, allP_imp h1 h2 h.2.2⟩
  | .inner p q, h => ⟨allP_imp h1 h2 h.1, allP_imp h1 h2 h.2⟩
  | .either p q, h => ⟨allP_imp h1 h2 h.1, allP_imp h1 h2 h.2⟩
  | .out, _ => trivial
  | .retry, _ => trivial
  | .read _ _, h => h1 _ h
  | .write _ _, h => h1 _ h
  | .lt _ _, h => h1 _ h
  | .tell _, h => h1 _ h
theorem allP_imp {φ φ' : Stp → Prop} {ψ ψ' : Sm → Prop} (h1 : ∀ s, φ s → φ' s) (h2 : ∀ a, ψ a → ψ' a) : ∀ {p : List Stp}, allP φ ψ p → allP φ' ψ' p
  | [], _ => trivial
  | _ :: _, h => ⟨allS_imp h1 h2 h.1, allP_imp h1 h2 h.2⟩
end
theorem okF.okP {m : Nat} {p : List Stp} (h : okF m p) : okP m p := allP_imp (fun _ h => h.1) (fun _ h => h.1) h
def spNum : SpN := fun vs H Q => ∃ fd cl, vs = [.ref fd] ∧ IsFd H fd cl ∧ ∀ H' (r : Int), But (· = fd) H H' → IsFd H' fd cl → r.natAbs ≤ 10 ^ 6 → Q (.int r) H'
def spLSum (n : Nat) : SpN := fun vs H Q => ∃ (fd cl nl : Addr) (names : List Str) (wn : Nat), vs = [.ref fd, .ref nl, .int (wn : Int)] ∧ IsFd H fd cl ∧ H nl = some (.lst (names.map V.str)) ∧ names ≠ [] ∧ names.length ≤ 64 ∧ (∀ x ∈ names, gX x) ∧ 1 ≤ wn ∧ wn < n ∧
  ∀ H' v a, But (· = fd) H H' → IsFd H' fd cl → IsSm H' a v → sdep a < wn → smB (10 ^ 60) a → smX a → Q v H'
theorem nat_of {r m : Int} (h0 : 0 ≤ r) (h1 : r < m) : ∃ j : Nat, r = (j : Int) ∧ (j : Int) < m := ⟨r.toNat, by omega, by omega⟩
section
variable {P : Program} {w : World} {K : PySem.W.Frag} {mg : Str → Option Value} {base : Heap} {k : Nat}
theorem ok_law_number (F : Fd K mg "_law_number" s_law_number ["_law_feed_here"]) (D : Cal P w K mg base k "_law_draw" ["_law_feed_here", "_law_many"] spDraw) : Cal P w K mg base (k + 1) "_law_number" ["_law_feed_here"] spNum := by
  refine F.ok sc_law_number (fun vs H Q ⟨_, _, h, _⟩ => by rw [h]; rfl) fun f cdv A outer s0 H vs Q E hr h => ?_
  obtain ⟨fd, cl, rfl, hF, q⟩ := h
  refine ⟨_, pss_cons (ps_par (i := 1) (j := 2) (by rfl) sc_law_number.nd rfl rfl (by decide) rfl rfl (pa_cons (pe_cal D hr rfl (pa_cons (pv 0) (pa_cons pe_int pa_nil))) (pa_cons (pe_op op_sub (pe_cal D hr rfl (pa_cons (pv 0) (pa_cons pe_int pa_nil))) pe_int) pa_nil)) (by rfl))
    (pss_one (ps_ret (pe_ix ix_list (pe_lst (pa_cons (pv 1) (pa_cons (pe_op op_sub (pv 1) pe_int) (pa_cons (pv 2) (pa_cons (pe_op op_mul (pe_op op_sub (pe_op op_pow pe_int pe_int) (pv 1)) (pe_ix ix_list (pe_lst (pa_cons pe_int (pa_cons (pe_un un_neg pe_int) pa_nil))) (pe_cal D hr rfl (pa_cons (pv 0) (pa_cons pe_int pa_nil))) (fun _ _ => rfl))) pa_nil)))))
      (pe_op op_fdiv (pe_cal D hr rfl (pa_cons (pv 0) (pa_cons pe_int pa_nil))) pe_int) (fun _ _ => rfl)))), ?_⟩
  refine ⟨_, rfl, fd, cl, 4, rfl, hF, by decide, by decide, fun H1 r1 b1 f1 h10 h11 => ?_⟩
  refine ⟨_, rfl, fd, cl, 400, rfl, f1, by decide, by decide, fun H2 r2 b2 f2 h20 h21 => ?_⟩
  refine ⟨_, _, rfl, rfl, _, _, rfl, _, rfl, _, rfl, _, _, rfl, rfl, _, rfl, _, _, rfl, rfl, ⟨by decide, by decide, by decide⟩, _, rfl, _, _, rfl, rfl, ?_⟩
  refine ⟨_, rfl, by show 2 ≤ sizeLine; decide, fun p np => ?_⟩
  have sp := same_upd (o := .lst [.int 1, .int (-1)]) np
  have hp : upd H2 p (.lst [.int 1, .int (-1)]) p = some (.lst [.int 1, .int (-1)]) := upd_same
  have f3 := f2.same sp
  generalize upd H2 p (.lst [.int 1, .int (-1)]) = H3 at sp hp f3
  refine ⟨_, rfl, fd, cl, 2, rfl, f3, by decide, by decide, fun H4 r3 b4 f4 h30 h31 => ?_⟩
  have hp4 := b4 _ _ hp (f3.ne_lst hp)
  have b04 := b1.trans (b2.trans ((Same.but sp).trans b4))
  -- the sign
  obtain ⟨sg, hsg, hs1⟩ : ∃ sg : Int, atI [V.int 1, V.int (-1)] r3 = some (.int sg) ∧ (sg = 1 ∨ sg = -1) := by
    have : r3 = 0 ∨ r3 = 1 := by omega
    rcases this with rfl | rfl
    · exact ⟨1, rfl, .inl rfl⟩
    · exact ⟨-1, rfl, .inr rfl⟩
  refine ⟨p, _, r3, .int sg, rfl, rfl, SqL.of hp4, hsg, _, _, rfl, rfl, .inr (by rcases hs1 with rfl | rfl <;> decide), ?_⟩
  refine ⟨by show 4 ≤ sizeLine; decide, fun l nl => ?_⟩
  show tOp (rI CDiv fun i j => V.int (i / j)) (tCal spDraw (tCons (tVar 0) (tCons (tC (V.int 8)) tNil))) (tC (V.int 2)) [some (.ref fd), some (.int r1), some (.int (r2 - 100))] (upd H4 l (.lst [.int r1, .int (r1 - 1), .int (r2 - 100), .int (((10 : Int) ^ (6 : Int).toNat - r1) * sg)])) _
  have e18 : ((10 : Int) ^ (6 : Int).toNat) = 1000000 := by decide
  have sl := same_upd (o := .lst [.int r1, .int (r1 - 1), .int (r2 - 100), .int (((10 : Int) ^ (6 : Int).toNat - r1) * sg)]) nl
  have hl5 : upd H4 l (.lst [.int r1, .int (r1 - 1), .int (r2 - 100), .int (((10 : Int) ^ (6 : Int).toNat - r1) * sg)]) l = some (.lst [.int r1, .int (r1 - 1), .int (r2 - 100), .int (((10 : Int) ^ (6 : Int).toNat - r1) * sg)]) := upd_same
  have f5 := f4.same sl
  generalize upd H4 l (.lst [.int r1, .int (r1 - 1), .int (r2 - 100), .int (((10 : Int) ^ (6 : Int).toNat - r1) * sg)]) = H5 at sl hl5 f5
  refine ⟨_, rfl, fd, cl, 8, rfl, f5, by decide, by decide, fun H6 r4 b6 f6 h40 h41 => ?_⟩
  have hl6 := b6 _ _ hl5 (f5.ne_lst hl5)
  have b06 := b04.trans ((Same.but sl).trans b6)
  have : r4 / 2 = 0 ∨ r4 / 2 = 1 ∨ r4 / 2 = 2 ∨ r4 / 2 = 3 := by omega
  have fin : ∀ x : Int, atI [V.int r1, .int (r1 - 1), .int (r2 - 100), .int (((10 : Int) ^ (6 : Int).toNat - r1) * sg)] (r4 / 2) = some (.int x) → x.natAbs ≤ 10 ^ 6 → rIxL K (.ref l) (.int (r4 / 2)) H6 Q := fun x hx hb => ⟨l, _, _, _, rfl, rfl, SqL.of hl6, hx, q H6 x b06 f6 hb⟩
  refine ⟨_, _, rfl, rfl, ⟨by decide, by decide⟩, ?_⟩
  have h6 : (10 : Nat) ^ 6 = 1000000 := by decide
  rcases this with e | e | e | e
  · exact fin r1 (by rw [e]; rfl) (by omega)
  · exact fin (r1 - 1) (by rw [e]; rfl) (by omega)
  · exact fin (r2 - 100) (by rw [e]; rfl) (by omega)
  · refine fin (((10 : Int) ^ (6 : Int).toNat - r1) * sg) (by rw [e]; rfl) ?_
    rw [e18]
    rcases hs1 with rfl | rfl <;> omega
/-- the six words -/
def kws6 : List Ks := [.num, .slot, .slot, .plus, .minus, .less]
theorem ok_law_sum (F : Fd K mg "_law_sum" s_law_sum ["_law_feed_here", "_law_names_here", "_law_within"]) (D : Cal P w K mg base 1 "_law_draw" ["_law_feed_here", "_law_many"] spDraw) (M : Cal P w K mg base 2 "_law_number" ["_law_feed_here"] spNum) (gn : mg "len" = none) :
    ∀ n, Cal P w K mg base (n + 2) "_law_sum" ["_law_feed_here", "_law_names_here", "_law_within"] (spLSum n)
  | 0 => F.none fun vs H Q ⟨_, _, _, _, _, _, _, _, _, _, _, _, h, _⟩ => absurd h (Nat.not_lt_zero _)
  | n + 1 => by
    have C := ok_law_sum F D M gn n
    have D' := D.mono (show 1 ≤ n + 2 by omega)
    have M' := M.mono (show 2 ≤ n + 2 by omega)
    refine F.ok sc_law_sum (fun vs H Q ⟨_, _, _, _, _, h, _⟩ => by rw [h]; rfl) fun f cdv A outer s0 H vs Q E hr h => ?_
    obtain ⟨fd, cl, nl, names, wn, rfl, hF, hnl, hne, hl64, hgx, hw1, hwn, q⟩ := h
    refine ⟨_, pss_cons (ps_set (i := 3) sc_law_sum.nd rfl (.inl rfl) (pe_ix ix_list (pe_lst (pa_cons pe_str (pa_cons pe_str (pa_cons pe_str (pa_cons pe_str (pa_cons pe_str (pa_cons pe_str pa_nil))))))) (pe_cal D' hr rfl (pa_cons (pv 0) (pa_cons (pe_ifExp (pt_cmpR op_gt (pv 2) pe_int (nomark _)) pe_int pe_int) pa_nil))) (fun _ _ => rfl)))
      (pss_cons (ps_if (pt_cmpR op_eq (pv 3) pe_str (nomark _)) (pss_one (ps_ret (pe_tup (pa_cons (pv 3) (pa_cons (pe_cal M' hr rfl (pa_cons (pv 0) pa_nil)) pa_nil))))) pss_nil)
      (pss_cons (ps_if (pt_cmpR op_eq (pv 3) pe_str (nomark _)) (pss_one (ps_ret (pe_tup (pa_cons (pv 3) (pa_cons (pe_ix ix_list (pv 1) (pe_cal D' hr rfl (pa_cons (pv 0) (pa_cons (pe_callB call_len_seq (by rfl) gn (by decide +kernel) (pa_cons (pv 1) pa_nil)) pa_nil))) (fun _ _ => rfl)) pa_nil))))) pss_nil)
      (pss_cons (ps_set (i := 4) sc_law_sum.nd rfl (.inl rfl) (pe_cal C hr rfl (pa_cons (pv 0) (pa_cons (pv 1) (pa_cons (pe_op op_sub (pv 2) pe_int) pa_nil)))))
      (pss_one (ps_ret (pe_tup (pa_cons (pv 3) (pa_cons (pv 4) (pa_cons (pe_cal C hr rfl (pa_cons (pv 0) (pa_cons (pv 1) (pa_cons (pe_op op_sub (pv 2) pe_int) pa_nil)))) pa_nil))))))))), ?_⟩
    refine ⟨by show 6 ≤ sizeLine; decide, fun p np => ?_⟩
    have sp := same_upd (o := .lst [.str "num", .str "slot", .str "slot", .str "plus", .str "minus", .str "less"]) np
    have hp : upd H p (.lst [.str "num", .str "slot", .str "slot", .str "plus", .str "minus", .str "less"]) p = some (.lst [.str "num", .str "slot", .str "slot", .str "plus", .str "minus", .str "less"]) := upd_same
    have f1 := hF.same sp
    have hnl1 := sp _ _ hnl
    generalize upd H p (.lst [.str "num", .str "slot", .str "slot", .str "plus", .str "minus", .str "less"]) = H1 at sp hp f1 hnl1
    -- behind the word
    have rest : ∀ H2 (r : Int), But (· = fd) H H2 → IsFd H2 fd cl → H2 nl = some (.lst (names.map V.str)) → H2 p = some (.lst [.str "num", .str "slot", .str "slot", .str "plus", .str "minus", .str "less"]) → 0 ≤ r → r < (if 1 < wn then 6 else 3 : Int) → ∃ kk, atI [V.str "num", .str "slot", .str "slot", .str "plus", .str "minus", .str "less"] r = some (.str (ksN kk)) ∧ (kk = .num ∨ kk = .slot ∨ 1 < wn) := fun H2 r _ _ _ _ h0 h1 => by
      have : r = 0 ∨ r = 1 ∨ r = 2 ∨ (1 < wn ∧ (r = 3 ∨ r = 4 ∨ r = 5)) := by
        split at h1
        · omega
        · omega
      rcases this with rfl | rfl | rfl | ⟨hw, rfl | rfl | rfl⟩
      · exact ⟨.num, rfl, .inl rfl⟩
      · exact ⟨.slot, rfl, .inr (.inl rfl)⟩
      · exact ⟨.slot, rfl, .inr (.inl rfl)⟩
      · exact ⟨.plus, rfl, .inr (.inr hw)⟩
      · exact ⟨.minus, rfl, .inr (.inr hw)⟩
      · exact ⟨.less, rfl, .inr (.inr hw)⟩
    have next : ∀ (m : Int), m = (if 1 < wn then 6 else 3 : Int) → spDraw [.ref fd, .int m] H1 fun y H2 => rIxL K (.ref p) y H2 fun x H3 => tSeq (tIfS (tTest (tOp rEq (tVar 3) (tC (.str "num")))) (tRet (tTup (tCons (tVar 3) (tCons (tCal spNum (tCons (tVar 0) tNil)) tNil)))) tNext)
      (tSeq (tIfS (tTest (tOp rEq (tVar 3) (tC (.str "slot")))) (tRet (tTup (tCons (tVar 3) (tCons (tOp (rIxL K) (tVar 1) (tCal spDraw (tCons (tVar 0) (tCons (tCB (fun xs H Q => ∃ p ys, xs = [V.ref p] ∧ (SqL K H p ys ∨ SqT K H p ys) ∧ Q (.int ys.length) H) (tCons (tVar 1) tNil)) tNil)))) tNil)))) tNext)
      (tSeq (tAsg (tCal (spLSum n) (tCons (tVar 0) (tCons (tVar 1) (tCons (tOp (rI0 fun i j => .int (i - j)) (tVar 2) (tC (.int 1))) tNil)))) (gName 4))
      (tRet (tTup (tCons (tVar 3) (tCons (tVar 4) (tCons (tCal (spLSum n) (tCons (tVar 0) (tCons (tVar 1) (tCons (tOp (rI0 fun i j => .int (i - j)) (tVar 2) (tC (.int 1))) tNil)))) tNil))))))) { nx := fun _ H' => Q .non H', rt := Q } [some (.ref fd), some (.ref nl), some (.int (wn : Int)), some x, none] H3 := fun m hm => by
      refine ⟨fd, cl, m, rfl, f1, by rw [hm]; split <;> decide, by rw [hm]; split <;> decide, fun H2 r b2 f2 h0 h1 => ?_⟩
      have hp2 := b2 _ _ hp (f1.ne_lst hp)
      have hnl2 := b2 _ _ hnl1 (f1.ne_lst hnl1)
      have b02 := (Same.but sp).trans b2
      obtain ⟨kk, hkk, hw⟩ := rest H2 r b02 f2 hnl2 hp2 h0 (by rw [← hm]; exact h1)
      refine ⟨p, _, r, .str (ksN kk), rfl, rfl, SqL.of hp2, hkk, ?_⟩
      refine ⟨_, rfl, rfl, _, rfl, ?_⟩
      rw [show (Str.ofString "num") = ksN .num from rfl, dec_ks]
      refine ite2 (fun c => ?_) (fun c => ?_)
      · obtain rfl : kk = .num := of_decide_eq_true c
        refine ⟨_, rfl, _, rfl, fd, cl, rfl, f2, fun H3 i b3 f3 hi => ⟨by show 2 ≤ sizeLine; decide, fun t nt => ?_⟩⟩
        have st := same_upd (o := .tup [.str (ksN .num), .int i]) nt
        refine q _ _ (.num i) (b02.trans (b3.trans (Same.but st))) (f3.same st) ⟨t, rfl, upd_same⟩ (by show 0 < wn; omega) (Nat.le_trans hi (Nat.pow_le_pow_right (by omega) (by omega))) trivial
      · refine ⟨_, rfl, rfl, _, rfl, ?_⟩
        rw [show (Str.ofString "slot") = ksN .slot from rfl, dec_ks]
        refine ite2 (fun c2 => ?_) (fun c2 => ?_)
        · obtain rfl : kk = .slot := of_decide_eq_true c2
          have hpos : 0 < names.length := List.length_pos_iff.mpr hne
          refine ⟨_, rfl, _, rfl, _, rfl, _, rfl, nl, _, rfl, .inl (SqL.of hnl2), fd, cl, _, rfl, f2, by rw [List.length_map]; omega, by rw [List.length_map]; omega, fun H3 i b3 f3 h30 h31 => ?_⟩
          have hnl3 := b3 _ _ hnl2 (f2.ne_lst hnl2)
          rw [List.length_map] at h31
          obtain ⟨j, rfl, hj⟩ := nat_of h30 h31
          have hj : j < names.length := by omega
          refine ⟨nl, _, _, .str names[j], rfl, rfl, SqL.of hnl3, atI_nat (by rw [List.getElem?_map, List.getElem?_eq_getElem hj]; rfl), by show 2 ≤ sizeLine; decide, fun t nt => ?_⟩
          have st := same_upd (o := .tup [.str (ksN .slot), .str names[j]]) nt
          exact q _ _ (.slot names[j]) (b02.trans (b3.trans (Same.but st))) (f3.same st) ⟨t, rfl, upd_same⟩ (by show 0 < wn; omega) trivial (hgx _ (List.getElem_mem hj))
        · have hw1' : 1 < wn := by
            rcases hw with rfl | rfl | h
            · simp at c
            · simp at c2
            · exact h
          have ew : V.int ((wn : Int) - 1) = V.int ((wn - 1 : Nat) : Int) := by congr 1; omega
          refine ⟨_, rfl, _, rfl, _, rfl, _, _, rfl, rfl, fd, cl, nl, names, wn - 1, ?_, f2, hnl2, hne, hl64, hgx, by omega, by omega, fun H3 v1 a1 b3 f3 i3 d3 s3 x3 => ?_⟩
          · show [V.ref fd, V.ref nl, V.int ((wn : Int) - 1)] = _
            rw [ew]
          have hnl3 := b3 _ _ hnl2 (f2.ne_lst hnl2)
          refine ⟨_, rfl, _, rfl, _, rfl, _, rfl, _, rfl, _, _, rfl, rfl, fd, cl, nl, names, wn - 1, ?_, f3, hnl3, hne, hl64, hgx, by omega, by omega, fun H4 v2 a2 b4 f4 i4 d4 s4 x4 => ⟨by show 3 ≤ sizeLine; decide, fun t nt => ?_⟩⟩
          · show [V.ref fd, V.ref nl, V.int ((wn : Int) - 1)] = _
            rw [ew]
          have st := same_upd (o := .tup [.str (ksN kk), v1, v2]) nt
          obtain ⟨o, ho⟩ : ∃ o : Op, ksN kk = opN o := by
            cases kk
            · simp at c
            · simp at c2
            · exact ⟨.plus, rfl⟩
            · exact ⟨.minus, rfl⟩
            · exact ⟨.less, rfl⟩
          have hI : IsSm (upd H4 t (.tup [.str (ksN kk), v1, v2])) (.bin o a1 a2) (.ref t) := ⟨v1, v2, ⟨t, rfl, by rw [upd_same, ho]⟩, i3.mono (TLe.trans (f3.tle b4) (Same.tle st)), i4.mono (Same.tle st)⟩
          exact q _ _ (.bin o a1 a2) (b02.trans (b3.trans (b4.trans (Same.but st)))) (f4.same st) hI (by simp only [sdep]; omega) ⟨s3, s4⟩ ⟨x3, x4⟩
    refine ⟨_, rfl, _, rfl, _, _, rfl, rfl, _, rfl, ?_⟩
    refine ite2 (fun c => ?_) (fun c => ?_)
    · have c' : 1 < wn := by have := of_decide_eq_true c; omega
      exact next 6 (by rw [if_pos c'])
    · have c' : ¬ 1 < wn := fun z => c (decide_eq_true (by omega))
      exact next 3 (by rw [if_neg c'])
end
end Pk
-- ## PkStep
set_option Elab.async false
set_option linter.all false
set_option maxRecDepth 100000
set_option maxHeartbeats 4000000
namespace Pk
open PySem PySem.Spec PyProof.Rows L2
def scT (nl : Addr) (m : Int) (ct st : Addr) : List (Key × V) := [(Sum.inr "names", .ref nl), (Sum.inr "many", .int m), (Sum.inr "cells", .ref ct), (Sum.inr "slots", .ref st)]
/-- the scene at sc, as the drawing of programs sees it -/
def IsSn (H : Hp) (sc : Addr) (names : List Str) (m : Nat) : Prop := ∃ nl ct st, H sc = some (.dK (scT nl (m : Int) ct st)) ∧ H nl = some (.lst (names.map V.str))
theorem IsSn.ne {H : Hp} {fd cl sc : Addr} {names : List Str} {m : Nat} (h : IsSn H sc names m) (f : IsFd H fd cl) : sc ≠ fd := by
  obtain ⟨nl, ct, st, h1, _⟩ := h
  obtain ⟨a, l, c, cs, h2, _⟩ := f
  intro z
  rw [z, h2] at h1
  injection h1 with h1
  injection h1 with h1
  injection h1 with h1
  injection h1 with h1
  injection h1 with h1
  exact absurd h1 (by decide)
theorem IsSn.but {H H' : Hp} {fd cl sc : Addr} {names : List Str} {m : Nat} (h : IsSn H sc names m) (f : IsFd H fd cl) (b : But (· = fd) H H') : IsSn H' sc names m := by
  have hne := h.ne f
  obtain ⟨nl, ct, st, h1, h2⟩ := h
  exact ⟨nl, ct, st, b _ _ h1 hne, b _ _ h2 (f.ne_lst h2)⟩
theorem IsSn.same {H H' : Hp} {sc : Addr} {names : List Str} {m : Nat} (h : IsSn H sc names m) (e : Same H H') : IsSn H' sc names m := by
  obtain ⟨nl, ct, st, h1, h2⟩ := h
  exact ⟨nl, ct, st, e _ _ h1, e _ _ h2⟩
theorem IsSn.get {H : Hp} {sc : Addr} {names : List Str} {m : Nat} (h : IsSn H sc names m) : ∃ nl, DGet H sc (.str "names") (some (.ref nl)) ∧ H nl = some (.lst (names.map V.str)) ∧ DGet H sc (.str "many") (some (.int (m : Int))) := by
  obtain ⟨nl, ct, st, h1, h2⟩ := h
  exact ⟨nl, DGet.k (k := Sum.inr "names") h1, h2, DGet.k (k := Sum.inr "many") h1⟩
theorem IsFd.upd {H : Hp} {fd cl x : Addr} {o : HO} (h : IsFd H fd cl) (h1 : x ≠ fd) (h2 : x ≠ cl) : IsFd (upd H x o) fd cl := by
  obtain ⟨a, l, c, cs, e1, e2⟩ := h
  exact ⟨a, l, c, cs, by rw [upd_ne h1.symm]; exact e1, by rw [upd_ne h2.symm]; exact e2⟩
theorem IsFd.none2 {H : Hp} {fd cl p : Addr} (h : IsFd H fd cl) (n : H p = Option.none) : p ≠ cl := by
  obtain ⟨a, l, c, cs, h1, h2⟩ := h
  intro z
  rw [z, h2] at n
  cases n
theorem but_new {m : Addr → Prop} {H H' : Hp} {x : Addr} {o : HO} (b : But m H H') (n : H x = none) : But m H (upd H' x o) := fun y ob h hn => by
  rw [upd_ne (ne_of_none h n)]
  exact b y ob h hn
abbrev kV' (l : List Kw) : List V := l.map fun k => V.str (kwN k)
abbrev N_law_program : List Str := ["_law_feed_here", "_law_scene_here", "_law_room", "_law_depths", "_law_more", "_law_steps", "_law_k", "_law_step_now"]
theorem sc_law_program : FnScope N_law_program ["_law_feed_here", "_law_scene_here", "_law_room", "_law_depths", "_law_more"] (defScope s_law_program) := ⟨rfl, rfl, rfl, by decide +kernel, rfl, by decide +kernel, by decide +kernel⟩
abbrev N_law_step : List Str := ["_law_feed_here", "_law_scene_here", "_law_room", "_law_depths", "_law_more", "_law_words", "_law_word", "_law_slot", "_law_cell", "_law_amount", "_law_own_here", "_law_first", "_law_second"]
theorem sc_law_step : FnScope N_law_step ["_law_feed_here", "_law_scene_here", "_law_room", "_law_depths", "_law_more"] (defScope s_law_step) := ⟨rfl, rfl, rfl, by decide +kernel, rfl, by decide +kernel, by decide +kernel⟩
abbrev psProg : List Str := ["_law_feed_here", "_law_scene_here", "_law_room", "_law_depths", "_law_more"]
/-- what stands ahead of a drawn program -/
structure DPre (H : Hp) (fd cl sc ml : Addr) (names : List Str) (m : Nat) (mw : List Kw) (dp : Nat) : Prop where
  f : IsFd H fd cl
  s : IsSn H sc names m
  ml : H ml = some (.lst (kV' mw))
  n0 : names ≠ []
  n1 : names.length ≤ 64
  nx : ∀ x ∈ names, gX x
  m0 : 0 < m
  m1 : m ≤ 10
  mo : ∀ k ∈ mw, k = .out ∨ k = .retry
  mz : mw.length + 3 * dp ≤ 60
  d0 : 1 ≤ dp
theorem DPre.but {H H' : Hp} {fd cl sc ml : Addr} {names : List Str} {m : Nat} {mw : List Kw} {dp : Nat} (p : DPre H fd cl sc ml names m mw dp) (f' : IsFd H' fd cl) (b : But (· = fd) H H') : DPre H' fd cl sc ml names m mw dp :=
  ⟨f', p.s.but p.f b, b _ _ p.ml (p.f.ne_lst p.ml), p.n0, p.n1, p.nx, p.m0, p.m1, p.mo, p.mz, p.d0⟩
theorem DPre.same {H H' : Hp} {fd cl sc ml : Addr} {names : List Str} {m : Nat} {mw : List Kw} {dp : Nat} (p : DPre H fd cl sc ml names m mw dp) (e : Same H H') : DPre H' fd cl sc ml names m mw dp :=
  ⟨p.f.same e, p.s.same e, e _ _ p.ml, p.n0, p.n1, p.nx, p.m0, p.m1, p.mo, p.mz, p.d0⟩
def spProg (n : Nat) : SpN := fun vs H Q => ∃ (fd cl sc ml : Addr) (names : List Str) (m : Nat) (mw : List Kw) (rm dp : Nat), vs = [.ref fd, .ref sc, .int (rm : Int), .int (dp : Int), .ref ml] ∧ DPre H fd cl sc ml names m mw dp ∧ rm ≤ 100 ∧ dp < n ∧
  ∀ H' t v p (rm' : Nat), But (· = fd) H H' → IsFd H' fd cl → H' t = some (.tup [v, .int (rm' : Int)]) → IsPr H' p v → cnt p + rm' = rm → dep0 p < dp → okF m p → Q (.ref t) H'
def spStep (n : Nat) : SpN := fun vs H Q => ∃ (fd cl sc ml : Addr) (names : List Str) (m : Nat) (mw : List Kw) (rm dp : Nat), vs = [.ref fd, .ref sc, .int (rm : Int), .int (dp : Int), .ref ml] ∧ DPre H fd cl sc ml names m mw dp ∧ rm ≤ 100 ∧ dp < n ∧
  ∀ H' t v s (rm' : Nat), But (· = fd) H H' → IsFd H' fd cl → H' t = some (.tup [v, .int (rm' : Int)]) → IsSt H' s v → cntS s + rm' = rm + 1 → depS s < dp → allS (fS m) fA s → Q (.ref t) H'
section
variable {P : Program} {w : World} {K : PySem.W.Frag} {mg : Str → Option Value} {base : Heap} {n k : Nat}
theorem ok_law_program (F : Fd K mg "_law_program" s_law_program psProg) (D : Cal P w K mg base k "_law_draw" ["_law_feed_here", "_law_many"] spDraw) (S : Cal P w K mg base k "_law_step" psProg (spStep n)) (gr : mg "range" = none) (gt : mg "tuple" = none) : Cal P w K mg base (k + 1) "_law_program" psProg (spProg n) := by
  refine F.ok sc_law_program (fun vs H Q ⟨_, _, _, _, _, _, _, _, _, h, _⟩ => by rw [h]; rfl) fun f cdv A outer s0 H vs Q E hr h => ?_
  obtain ⟨fd, cl, sc, ml, names, m, mw, rm, dp, rfl, p, hrm, hdn, q⟩ := h
  refine ⟨_, pss_cons (ps_set (i := 5) sc_law_program.nd rfl (.inl rfl) (pe_lst pa_nil))
    (pss_cons (ps_for PassesOwn.never rfl (pi_range1 rfl gr (pa_cons (pe_cal D hr rfl (pa_cons (pv 0) (pa_cons pe_int pa_nil))) pa_nil)) (pg_name (i := 6) sc_law_program.nd rfl (.inl rfl))
      (pss_one (ps_if (pt_cmpR op_gt (pv 2) pe_int (nomark _))
        (pss_cons (ps_asg (pe_cal S hr rfl (pa_cons (pv 0) (pa_cons (pv 1) (pa_cons (pe_op op_sub (pv 2) pe_int) (pa_cons (pv 3) (pa_cons (pv 4) pa_nil)))))) (pg_tup rfl (pgs_cons (pg_name (i := 7) sc_law_program.nd rfl (.inl rfl)) (pgs_cons (pg_name (i := 2) sc_law_program.nd rfl (.inl rfl)) pgs_nil))))
        (pss_one (ps_expr (pe_bm PySem.F.plainAttrs_list PySem.F.slot_list_append PySem.F.type_list_append mt_append (pv 5) (pa_cons (pv 7) pa_nil))))) pss_nil)))
    (pss_one (ps_ret (pe_tup (pa_cons (pe_callTy call_tuple_of (by rfl) gt (by decide +kernel) (pa_cons (pv 5) pa_nil)) (pa_cons (pv 2) pa_nil)))))), ?_⟩
  refine ⟨Nat.zero_le _, fun r nr => ?_⟩
  have sr := same_upd (o := .lst []) nr
  have hr0 : upd H r (.lst []) r = some (.lst []) := upd_same
  have p0 := p.same sr
  have rf : r ≠ fd := p.f.none nr
  have rc : r ≠ cl := p.f.none2 nr
  have rml : r ≠ ml := fun z => by rw [z, p.ml] at nr; cases nr
  generalize upd H r (.lst []) = H0 at sr hr0 p0
  refine ⟨_, rfl, fd, cl, 6, rfl, p0.f, by decide, by decide, fun H1 x b1 f1 x0 x1 => ?_⟩
  have p1 := p0.but f1 b1
  have hr1 := b1 _ _ hr0 rf
  have b01 := (Same.but sr).trans b1
  refine ⟨x, rfl, by omega, by omega, for_it (walk_rng (n := x.toNat)) (fun i σ H' => ∃ (rm' : Nat) (y6 y7 : Option V) (us : List V) (g : List Stp), σ = [some (.ref fd), some (.ref sc), some (.int (rm' : Int)), some (.int (dp : Int)), some (.ref ml), some (.ref r), y6, y7] ∧ But (· = fd) H H' ∧ IsFd H' fd cl ∧ H' r = some (.lst us) ∧ IsSts H' g us ∧ cnt g + rm' = rm ∧ dep0 g < dp ∧ okF m g)
    ⟨rm, none, none, [], [], rfl, b01, f1, hr1, rfl, by simp [cnt], p.d0, trivial⟩ (fun _ _ _ _ _ => trivial) (fun i x σ H2 H3 hi ⟨rm', y6, y7, us, g, e1, b2, f2, hr2, hg, hcn, hdp, ho⟩ hY => ?_) (fun σ H' ⟨rm', y6, y7, us, g, e1, b2, f2, hr2, hg, hcn, hdp, ho⟩ => ?_)⟩
  · obtain ⟨e2, hx⟩ := hY
    subst e1 e2 hx
    refine ⟨_, rfl, _, _, rfl, rfl, _, rfl, ?_⟩
    refine ite2 (fun c => ?_) (fun c => ?_)
    · have hpos : 0 < rm' := by have := of_decide_eq_true c; omega
      have p3 := p.but f2 b2
      have hlen : us.length ≤ 100 := by
        rw [hg.length]
        have := len_le_cnt g
        omega
      refine ⟨_, rfl, _, rfl, _, rfl, _, _, rfl, rfl, _, rfl, _, rfl, fd, cl, sc, ml, names, m, mw, rm' - 1, dp, ?_, p3, by omega, hdn, fun H4 t v st rm4 b4 f4 ht4 hv4 hc4 hd4 ho4 => ?_⟩
      · show [V.ref fd, V.ref sc, V.int ((rm' : Int) - 1), V.int (dp : Int), V.ref ml] = _
        rw [show ((rm' : Int) - 1) = ((rm' - 1 : Nat) : Int) by omega]
      have hr4 := b4 _ _ hr2 rf
      refine ⟨t, _, rfl, SqT.of ht4, rfl, _, _, rfl, _, _, rfl, rfl, ?_⟩
      refine ⟨.ref r, rfl, .inl ⟨rfl, _, SqL.of hr4⟩, _, rfl, r, us, v, rfl, rfl, hr4, by rw [sizeLine_eq]; omega, ?_⟩
      have tl : TLe H3 (upd H4 r (.lst (us ++ [v]))) := fun a xs h => by
        have h4 := f2.tle b4 _ _ h
        rw [upd_ne (ne_of h4 hr4 (by intro z; cases z))]
        exact h4
      have tl4 : TLe H4 (upd H4 r (.lst (us ++ [v]))) := fun a xs h4 => by
        rw [upd_ne (ne_of h4 hr4 (by intro z; cases z))]
        exact h4
      refine ⟨rm4, _, _, us ++ [v], g ++ [st], rfl, but_new (b2.trans b4) nr, f4.upd rf rc, upd_same, (hg.mono tl).append ⟨v, [], rfl, hv4.mono tl4, rfl⟩, ?_, ?_, ?_⟩
      · rw [cnt_append]
        have : cnt [st] = cntS st := by simp [cnt]
        omega
      · rw [dep0_append]
        have : dep0 [st] = depS st := by simp [dep0]
        omega
      · exact (allP_append _ _ _ _).mpr ⟨ho, ho4, trivial⟩
    · exact ⟨rm', _, _, us, g, rfl, b2, f2, hr2, hg, hcn, hdp, ho⟩
  · subst e1
    refine ⟨_, rfl, r, us, rfl, .inl ⟨SqL.of hr2, fun u nu => ⟨_, rfl, by show 2 ≤ sizeLine; decide, fun t nt => ?_⟩⟩⟩
    have su := same_upd (o := .tup us) nu
    have st := same_upd (o := .tup [.ref u, .int (rm' : Int)]) nt
    refine q _ t _ g rm' (b2.trans (Same.but (Same.trans su st))) (f2.same (Same.trans su st)) upd_same ⟨u, us, rfl, st _ _ upd_same, hg.mono (Same.tle (Same.trans su st))⟩ hcn hdp ho
abbrev ws9 : List Kw := [.read, .read, .write, .write, .lt, .tell, .ite, .inner, .either]
abbrev ws5 : List Kw := [.read, .write, .write, .lt, .tell]
theorem ok_law_step (F : Fd K mg "_law_step" s_law_step psProg) (D : Cal P w K mg base k "_law_draw" ["_law_feed_here", "_law_many"] spDraw) (SmC : Cal P w K mg base k "_law_sum" ["_law_feed_here", "_law_names_here", "_law_within"] (spLSum 5)) (Pg : Cal P w K mg base k "_law_program" psProg (spProg n)) (gn : mg "len" = none) : Cal P w K mg base (k + 1) "_law_step" psProg (spStep (n + 1)) := by
  refine F.ok sc_law_step (fun vs H Q ⟨_, _, _, _, _, _, _, _, _, h, _⟩ => by rw [h]; rfl) fun f cdv A outer s0 H vs Q E hr h => ?_
  obtain ⟨fd, cl, sc, ml, names, m, mw, rm, dp, rfl, p, hrm, hdn, q⟩ := h
  refine ⟨_, pss_cons (ps_set (i := 5) sc_law_step.nd rfl (.inl rfl) (pe_lst (pa_cons pe_str (pa_cons pe_str (pa_cons pe_str (pa_cons pe_str (pa_cons pe_str (pa_cons pe_str (pa_cons pe_str (pa_cons pe_str (pa_cons pe_str pa_nil)))))))))))
    (pss_cons (ps_if (pt_cmpR op_lt (pv 3) pe_int (nomark _)) (pss_one (ps_set (i := 5) sc_law_step.nd rfl (.inl rfl) (pe_lst (pa_cons pe_str (pa_cons pe_str (pa_cons pe_str (pa_cons pe_str (pa_cons pe_str pa_nil)))))))) pss_nil)
    (pss_cons (ps_set (i := 6) sc_law_step.nd rfl (.inl rfl) (pe_ix ix_list (pe_op op_cat (pv 5) (pv 4)) (pe_cal D hr rfl (pa_cons (pv 0) (pa_cons (pe_callB call_len_seq (by rfl) gn (by decide +kernel) (pa_cons (pe_op op_cat (pv 5) (pv 4)) pa_nil)) pa_nil))) (fun _ _ => rfl)))
    (pss_cons (ps_set (i := 7) sc_law_step.nd rfl (.inl rfl) (pe_ix ix_list (pe_dget (u1 hr) (pv 1) pe_str (fun _ _ => rfl)) (pe_cal D hr rfl (pa_cons (pv 0) (pa_cons (pe_callB call_len_seq (by rfl) gn (by decide +kernel) (pa_cons (pe_dget (u1 hr) (pv 1) pe_str (fun _ _ => rfl)) pa_nil)) pa_nil))) (fun _ _ => rfl)))
    (pss_cons (ps_set (i := 8) sc_law_step.nd rfl (.inl rfl) (pe_cal D hr rfl (pa_cons (pv 0) (pa_cons (pe_dget (u1 hr) (pv 1) pe_str (fun _ _ => rfl)) pa_nil))))
    (pss_cons (ps_if (pt_cmpR op_in_seq (pv 6) (pe_tup (pa_cons pe_str (pa_cons pe_str pa_nil))) rfl) (pss_one (ps_ret (pe_tup (pa_cons (pe_tup (pa_cons (pv 6) pa_nil)) (pa_cons (pv 2) pa_nil))))) pss_nil)
    (pss_cons (ps_if (pt_cmpR op_eq (pv 6) pe_str (nomark _)) (pss_one (ps_ret (pe_tup (pa_cons (pe_tup (pa_cons (pv 6) (pa_cons (pv 7) (pa_cons (pv 8) pa_nil)))) (pa_cons (pv 2) pa_nil))))) pss_nil)
    (pss_cons (ps_set (i := 9) sc_law_step.nd rfl (.inl rfl) (pe_cal SmC hr rfl (pa_cons (pv 0) (pa_cons (pe_dget (u1 hr) (pv 1) pe_str (fun _ _ => rfl)) (pa_cons (pe_op op_add pe_int (pe_cal D hr rfl (pa_cons (pv 0) (pa_cons pe_int pa_nil)))) pa_nil)))))
    (pss_cons (ps_if (pt_cmpR op_in_seq (pv 6) (pe_tup (pa_cons pe_str (pa_cons pe_str (pa_cons pe_str pa_nil)))) rfl)
      (pss_one (ps_ret (pe_tup (pa_cons (pe_dget (u1 hr) (pe_disp (pps_cons pe_str (pe_tup (pa_cons (pv 6) (pa_cons (pv 8) (pa_cons (pv 9) pa_nil)))) (pps_cons pe_str (pe_tup (pa_cons (pv 6) (pa_cons (pv 7) (pa_cons (pv 9) pa_nil)))) (pps_cons pe_str (pe_tup (pa_cons (pv 6) (pa_cons (pv 9) pa_nil))) pps_nil))) rfl rfl (by simp) (by simp)) (pv 6) (fun _ _ => rfl)) (pa_cons (pv 2) pa_nil))))) pss_nil)
    (pss_cons (ps_set (i := 10) sc_law_step.nd rfl (.inl rfl) (pe_dget (u1 hr) (pe_disp (pps_cons pe_str (pv 4) (pps_cons pe_str (pe_op op_cat (pv 4) (pe_op op_rep (pe_lst (pa_cons pe_str pa_nil)) pe_int)) (pps_cons pe_str (pe_op op_cat (pv 4) (pe_op op_rep (pe_lst (pa_cons pe_str pa_nil)) pe_int)) pps_nil))) rfl rfl (by simp) (by simp)) (pv 6) (fun _ _ => rfl)))
    (pss_cons (ps_asg (pe_cal Pg hr rfl (pa_cons (pv 0) (pa_cons (pv 1) (pa_cons (pv 2) (pa_cons (pe_op op_sub (pv 3) pe_int) (pa_cons (pv 10) pa_nil)))))) (pg_tup rfl (pgs_cons (pg_name (i := 11) sc_law_step.nd rfl (.inl rfl)) (pgs_cons (pg_name (i := 2) sc_law_step.nd rfl (.inl rfl)) pgs_nil))))
    (pss_cons (ps_asg (pe_cal Pg hr rfl (pa_cons (pv 0) (pa_cons (pv 1) (pa_cons (pv 2) (pa_cons (pe_op op_sub (pv 3) pe_int) (pa_cons (pv 4) pa_nil)))))) (pg_tup rfl (pgs_cons (pg_name (i := 12) sc_law_step.nd rfl (.inl rfl)) (pgs_cons (pg_name (i := 2) sc_law_step.nd rfl (.inl rfl)) pgs_nil))))
    (pss_one (ps_ret (pe_tup (pa_cons (pe_ifExp (pt_cmpR op_eq (pv 6) pe_str (nomark _)) (pe_tup (pa_cons (pv 6) (pa_cons (pv 9) (pa_cons (pv 11) (pa_cons (pv 12) pa_nil))))) (pe_tup (pa_cons (pv 6) (pa_cons (pv 11) (pa_cons (pv 12) pa_nil))))) (pa_cons (pv 2) pa_nil)))))))))))))))), ?_⟩
  refine ⟨by show 9 ≤ sizeLine; decide, fun l9 n9 => ?_⟩
  have s9 := same_upd (o := .lst (kV' ws9)) n9
  have h9 : upd H l9 (.lst (kV' ws9)) l9 = some (.lst (kV' ws9)) := upd_same
  have p9 := p.same s9
  show tSeq _ _ _ [some (.ref fd), some (.ref sc), some (.int (rm : Int)), some (.int (dp : Int)), some (.ref ml), some (.ref l9), none, none, none, none, none, none, none] (upd H l9 (.lst (kV' ws9)))
  generalize upd H l9 (.lst (kV' ws9)) = H9 at s9 h9 p9
  refine (fun (tail : ∀ (H1 : Hp) (wl : Addr) (ws : List Kw), But (· = fd) H H1 → DPre H1 fd cl sc ml names m mw dp → H1 wl = some (.lst (kV' ws)) → (∀ kk ∈ ws, (kk ≠ .out ∧ kk ≠ .retry) ∧ ((kk = .ite ∨ kk = .inner ∨ kk = .either) → 2 ≤ dp)) → 0 < ws.length → ws.length ≤ 9 →
    (?T : L2.St → Hp → Prop) [some (.ref fd), some (.ref sc), some (.int (rm : Int)), some (.int (dp : Int)), some (.ref ml), some (.ref wl), none, none, none, none, none, none, none] H1) => ?main) ?pf
  case main =>
    refine ⟨_, rfl, _, _, rfl, rfl, _, rfl, ?_⟩
    refine ite2 (fun c => ?_) (fun c => ?_)
    · refine ⟨by show 5 ≤ sizeLine; decide, fun l5 n5 => ?_⟩
      have s5 := same_upd (o := .lst (kV' ws5)) n5
      dsimp only [gName]
      exact tail (upd H9 l5 (.lst (kV' ws5))) l5 ws5 (Same.but (Same.trans s9 s5)) (p9.same s5) upd_same (fun kk hk => by
        have : kk = .read ∨ kk = .write ∨ kk = .lt ∨ kk = .tell := by revert kk; decide
        rcases this with rfl | rfl | rfl | rfl <;> simp) (by decide) (by decide)
    · have hd2 : 2 ≤ dp := by
        have : ¬ ((dp : Int) < 2) := fun z => c (decide_eq_true z)
        omega
      dsimp only [tNext]
      refine tail H9 l9 ws9 (Same.but s9) p9 h9 (fun kk hk => ⟨?_, fun _ => hd2⟩) (by decide) (by decide)
      revert kk
      decide
  case pf =>
    intro H1 wl ws b1 p1 hwl hws hw0 hw9
    have hmz : mw.length ≤ 60 := by have := p.mz; omega
    have hml : (kV' ws).length + (kV' mw).length ≤ 100 := by rw [List.length_map, List.length_map]; omega
    have ew : kV' ws ++ kV' mw = kV' (ws ++ mw) := (List.map_append ..).symm
    -- the word
    refine ⟨_, rfl, _, rfl, wl, ml, _, _, rfl, rfl, hwl, p1.ml, by rw [sizeLine_eq]; omega, fun a na => ?_⟩
    rw [ew]
    have sa := same_upd (o := .lst (kV' (ws ++ mw))) na
    have ha : upd H1 a (.lst (kV' (ws ++ mw))) a = some (.lst (kV' (ws ++ mw))) := upd_same
    have p2 := p1.same sa
    have hwl2 := sa _ _ hwl
    generalize upd H1 a (.lst (kV' (ws ++ mw))) = H2 at sa ha p2 hwl2
    refine ⟨_, rfl, _, rfl, _, rfl, wl, ml, _, _, rfl, rfl, hwl2, p2.ml, by rw [sizeLine_eq]; omega, fun a2 na2 => ?_⟩
    rw [ew]
    have sa2 := same_upd (o := .lst (kV' (ws ++ mw))) na2
    have ha2 : upd H2 a2 (.lst (kV' (ws ++ mw))) a2 = some (.lst (kV' (ws ++ mw))) := upd_same
    have p3 := p2.same sa2
    have ha3 := sa2 _ _ ha
    generalize upd H2 a2 (.lst (kV' (ws ++ mw))) = H3 at sa2 ha2 p3 ha3
    have hlen : (kV' (ws ++ mw)).length = ws.length + mw.length := by rw [List.length_map, List.length_append]
    refine ⟨a2, _, rfl, .inl (SqL.of ha2), fd, cl, _, rfl, p3.f, by rw [hlen]; omega, by rw [hlen]; omega, fun H4 r4 b4 f4 r40 r41 => ?_⟩
    have p4 := p3.but f4 b4
    have ha4 := b4 _ _ ha3 (p3.f.ne_lst ha3)
    have b04 := b1.trans ((Same.but (Same.trans sa sa2)).trans b4)
    obtain ⟨j, rfl, hj⟩ := nat_of r40 r41
    rw [hlen] at hj
    obtain ⟨kk, hkk, hkm⟩ : ∃ kk, (ws ++ mw)[j]? = some kk ∧ kk ∈ ws ++ mw := ⟨(ws ++ mw)[j]'(by rw [List.length_append]; omega), List.getElem?_eq_getElem _, List.getElem_mem _⟩
    refine ⟨a, _, _, .str (kwN kk), rfl, rfl, SqL.of ha4, atI_nat (by rw [List.getElem?_map, hkk]; rfl), ?_⟩
    -- the slot
    obtain ⟨nl, g1, hnl, g2⟩ := p4.s.get
    have hpos : 0 < names.length := List.length_pos_iff.mpr p.n0
    have hn64 := p.n1
    refine ⟨_, rfl, sc, _, rfl, g1, ?_⟩
    refine ⟨_, rfl, _, rfl, sc, _, rfl, g1, nl, _, rfl, .inl (SqL.of hnl), fd, cl, _, rfl, p4.f, by rw [List.length_map]; omega, by rw [List.length_map]; omega, fun H5 r5 b5 f5 r50 r51 => ?_⟩
    have p5 := p4.but f5 b5
    have hnl5 := b5 _ _ hnl (p4.f.ne_lst hnl)
    rw [List.length_map] at r51
    obtain ⟨jn, rfl, hjn⟩ := nat_of r50 r51
    have hjn : jn < names.length := by omega
    have hgx : gX names[jn] := p.nx _ (List.getElem_mem hjn)
    refine ⟨nl, _, _, .str names[jn], rfl, rfl, SqL.of hnl5, atI_nat (by rw [List.getElem?_map, List.getElem?_eq_getElem hjn]; rfl), ?_⟩
    generalize names[jn] = x at hgx
    -- the cell
    obtain ⟨nl5, g15, hnl5', g25⟩ := p5.s.get
    have hm0 := p.m0
    have hm1 := p.m1
    refine ⟨_, rfl, _, rfl, sc, _, rfl, g25, fd, cl, _, rfl, p5.f, by omega, by omega, fun H6 r6 b6 f6 r60 r61 => ?_⟩
    have p6 := p5.but f6 b6
    have b06 := b04.trans (b5.trans b6)
    obtain ⟨cc, rfl, hcc⟩ := nat_of r60 r61
    have hcc : cc < m := by omega
    -- out, retry
    refine ⟨_, rfl, by show 2 ≤ sizeLine; decide, fun d nd => ⟨d, _, rfl, .inr (SqT.of upd_same), rfl, rfl, _, rfl, ?_⟩⟩
    have sd := same_upd (o := .tup [.str "out", .str "retry"]) nd
    have p7 := p6.same sd
    have b07 := b06.trans (Same.but sd)
    have i2 : inV (.str (kwN kk)) [.str "out", .str "retry"] = decide (kk ∈ [Kw.out, Kw.retry]) := inV_kw kk [.out, .retry]
    rw [show (if false = true then !inV (.str (kwN kk)) [.str "out", .str "retry"] else inV (.str (kwN kk)) [.str "out", .str "retry"]) = decide (kk ∈ [Kw.out, Kw.retry]) from i2]
    generalize upd H6 d (.tup [.str "out", .str "retry"]) = H7 at sd p7 b07
    have two : ∀ (Hx : Hp) (v : V) (s : Stp) (rm' : Nat), But (· = fd) H Hx → IsFd Hx fd cl → IsSt Hx s v → cntS s + rm' = rm + 1 → depS s < dp → allS (fS m) fA s → ∀ t, Hx t = none → Q (.ref t) (upd Hx t (.tup [v, .int (rm' : Int)])) := fun Hx v s rm' bx fx hI hcn hdp ho t nt =>
      q _ t v s rm' (bx.trans (Same.but (same_upd nt))) (fx.same (same_upd nt)) upd_same (hI.mono (Same.tle (same_upd nt))) hcn hdp ho
    refine ite2 (fun c1 => ?_) (fun c1 => ?_)
    · have hk := of_decide_eq_true c1
      refine ⟨_, rfl, by show 1 ≤ sizeLine; decide, fun t1 nt1 => ⟨_, rfl, by show 2 ≤ sizeLine; decide, fun t nt => ?_⟩⟩
      have s1 := same_upd (o := .tup [.str (kwN kk)]) nt1
      have hd0 := p.d0
      have : kk = .out ∨ kk = .retry := by simpa using hk
      rcases this with rfl | rfl
      · exact two _ (.ref t1) .out rm (b07.trans (Same.but s1)) (p7.f.same s1) ⟨t1, rfl, upd_same⟩ (by simp only [cntS]; omega) (by simp only [depS]; omega) trivial t nt
      · exact two _ (.ref t1) .retry rm (b07.trans (Same.but s1)) (p7.f.same s1) ⟨t1, rfl, upd_same⟩ (by simp only [cntS]; omega) (by simp only [depS]; omega) trivial t nt
    · have hkn : kk ≠ .out ∧ kk ≠ .retry := by
        have : ¬ (kk ∈ [Kw.out, Kw.retry]) := fun z => c1 (decide_eq_true z)
        simpa using this
      have hkw : kk ∈ ws := by
        rcases List.mem_append.mp hkm with h | h
        · exact h
        · rcases p.mo kk h with e | e
          · exact absurd e hkn.1
          · exact absurd e hkn.2
      refine ⟨_, rfl, rfl, _, rfl, ?_⟩
      rw [show (Str.ofString "read") = kwN .read from rfl, dec_kw]
      refine ite2 (fun c2 => ?_) (fun c2 => ?_)
      · obtain rfl : kk = .read := of_decide_eq_true c2
        refine ⟨_, rfl, _, rfl, _, rfl, by show 3 ≤ sizeLine; decide, fun t1 nt1 => ⟨_, rfl, by show 2 ≤ sizeLine; decide, fun t nt => ?_⟩⟩
        have s1 := same_upd (o := .tup [.str (kwN .read), .str x, .int (cc : Int)]) nt1
        have hd0 := p.d0
        exact two _ (.ref t1) (.read x cc) rm (b07.trans (Same.but s1)) (p7.f.same s1) ⟨t1, rfl, upd_same⟩ (by simp only [cntS]; omega) (by simp only [depS]; omega) ⟨hcc, hgx⟩ t nt
      · -- the amount
        obtain ⟨nl7, g17, hnl7, g27⟩ := p7.s.get
        refine ⟨_, rfl, _, rfl, sc, _, rfl, g17, _, rfl, fd, cl, 4, rfl, p7.f, by decide, by decide, fun H8 r8 b8 f8 r80 r81 => ?_⟩
        have p8 := p7.but f8 b8
        have hnl8 := b8 _ _ hnl7 (p7.f.ne_lst hnl7)
        obtain ⟨jw, rfl, hjw⟩ := nat_of r80 r81
        refine ⟨_, _, rfl, rfl, fd, cl, nl7, names, 1 + jw, ?_, p8.f, hnl8, p.n0, p.n1, p.nx, by omega, by omega, fun H10 va am b10 f10 hI10 hd10 hs10 hx10 => ?_⟩
        · show [V.ref fd, V.ref nl7, V.int ((1 : Int) + (jw : Int))] = _
          rw [show (1 : Int) + (jw : Int) = ((1 + jw : Nat) : Int) by omega]
        have p10 := p8.but f10 b10
        have b010 := b07.trans (b8.trans b10)
        have hA : fA am := ⟨⟨hs10, by omega⟩, hx10⟩
        refine ⟨_, rfl, by show 3 ≤ sizeLine; decide, fun d3 nd3 => ⟨d3, _, rfl, .inr (SqT.of upd_same), rfl, rfl, _, rfl, ?_⟩⟩
        have sd3 := same_upd (o := .tup [.str "write", .str "let", .str "tell"]) nd3
        have p11 := p10.same sd3
        have b011 := b010.trans (Same.but sd3)
        have hI11 := hI10.mono (Same.tle sd3)
        have i3 : inV (.str (kwN kk)) [.str "write", .str "let", .str "tell"] = decide (kk ∈ [Kw.write, Kw.lt, Kw.tell]) := inV_kw kk [.write, .lt, .tell]
        rw [show (if false = true then !inV (.str (kwN kk)) [.str "write", .str "let", .str "tell"] else inV (.str (kwN kk)) [.str "write", .str "let", .str "tell"]) = decide (kk ∈ [Kw.write, Kw.lt, Kw.tell]) from i3]
        generalize upd H10 d3 (.tup [.str "write", .str "let", .str "tell"]) = H11 at sd3 p11 b011 hI11
        refine ite2 (fun c3 => ?_) (fun c3 => ?_)
        · have hk := of_decide_eq_true c3
          have hd0 := p.d0
          intro pd npd
          have e0 := same_upd (o := .dK []) npd
          have hp0 : upd H11 pd (.dK []) pd = some (.dK []) := upd_same
          generalize upd H11 pd (.dK []) = H12 at e0 hp0
          refine ⟨_, rfl, _, rfl, _, rfl, by show 3 ≤ sizeLine; decide, fun t1 nt1 => ?_⟩
          have e1 := same_upd (o := .tup [.str (kwN kk), .int (cc : Int), va]) nt1
          have k1 : upd H12 t1 (.tup [.str (kwN kk), .int (cc : Int), va]) t1 = some (.tup [.str (kwN kk), .int (cc : Int), va]) := upd_same
          have hp1 := e1 _ _ hp0
          generalize upd H12 t1 (.tup [.str (kwN kk), .int (cc : Int), va]) = H13 at e1 k1 hp1
          refine ⟨_, rfl, _, rfl, _, rfl, by show 3 ≤ sizeLine; decide, fun t2 nt2 => ?_⟩
          have e2 := same_upd (o := .tup [.str (kwN kk), .str x, va]) nt2
          have k2 : upd H13 t2 (.tup [.str (kwN kk), .str x, va]) t2 = some (.tup [.str (kwN kk), .str x, va]) := upd_same
          have k12 := e2 _ _ k1
          have hp2 := e2 _ _ hp1
          generalize upd H13 t2 (.tup [.str (kwN kk), .str x, va]) = H14 at e2 k2 k12 hp2
          refine ⟨_, rfl, _, rfl, by show 2 ≤ sizeLine; decide, fun t3 nt3 => ?_⟩
          have e3 := same_upd (o := .tup [.str (kwN kk), va]) nt3
          have k3 : upd H14 t3 (.tup [.str (kwN kk), va]) t3 = some (.tup [.str (kwN kk), va]) := upd_same
          have k13 := e3 _ _ k12
          have k23 := e3 _ _ k2
          have hp3 := e3 _ _ hp2
          generalize upd H14 t3 (.tup [.str (kwN kk), va]) = H15 at e3 k3 k13 k23 hp3
          have s15 := Same.trans e0 (Same.trans e1 (Same.trans e2 e3))
          refine ⟨hp3, [(Sum.inr "write", .ref t1), (Sum.inr "let", .ref t2), (Sum.inr "tell", .ref t3)], rfl, by show 3 ≤ 15; omega, ?_⟩
          have e16 : Same H11 (upd H15 pd (.dK (mergeK [] [(Sum.inr "write", .ref t1), (Sum.inr "let", .ref t2), (Sum.inr "tell", .ref t3)]))) := same_set s15 npd
          have hpd : upd H15 pd (.dK (mergeK [] [(Sum.inr "write", .ref t1), (Sum.inr "let", .ref t2), (Sum.inr "tell", .ref t3)])) pd = some (.dK [(Sum.inr "write", .ref t1), (Sum.inr "let", .ref t2), (Sum.inr "tell", .ref t3)]) := upd_same
          have tl16 : ∀ a xs, H15 a = some (.tup xs) → upd H15 pd (.dK (mergeK [] [(Sum.inr "write", .ref t1), (Sum.inr "let", .ref t2), (Sum.inr "tell", .ref t3)])) a = some (.tup xs) := fun a xs h => by
            rw [upd_ne (fun z => by rw [z, hp3] at h; cases h)]
            exact h
          have k1' := tl16 _ _ k13
          have k2' := tl16 _ _ k23
          have k3' := tl16 _ _ k3
          generalize upd H15 pd (.dK (mergeK [] [(Sum.inr "write", .ref t1), (Sum.inr "let", .ref t2), (Sum.inr "tell", .ref t3)])) = H16 at e16 hpd k1' k2' k3'
          have p16 := p11.same e16
          have b016 := b011.trans (Same.but e16)
          have hI16 := hI11.mono (Same.tle e16)
          have : kk = .write ∨ kk = .lt ∨ kk = .tell := by simpa using hk
          rcases this with rfl | rfl | rfl
          · refine ⟨_, rfl, pd, .ref t1, rfl, DGet.k (k := Sum.inr "write") hpd, _, rfl, by show 2 ≤ sizeLine; decide, fun t nt => ?_⟩
            exact two _ (.ref t1) (.write cc am) rm b016 p16.f ⟨va, ⟨t1, rfl, k1'⟩, hI16⟩ (by simp only [cntS]; omega) (by simp only [depS]; omega) ⟨⟨hcc, hA.1⟩, hA.2⟩ t nt
          · refine ⟨_, rfl, pd, .ref t2, rfl, DGet.k (k := Sum.inr "let") hpd, _, rfl, by show 2 ≤ sizeLine; decide, fun t nt => ?_⟩
            exact two _ (.ref t2) (.lt x am) rm b016 p16.f ⟨va, ⟨t2, rfl, k2'⟩, hI16⟩ (by simp only [cntS]; omega) (by simp only [depS]; omega) ⟨hA.1, hgx, hA.2⟩ t nt
          · refine ⟨_, rfl, pd, .ref t3, rfl, DGet.k (k := Sum.inr "tell") hpd, _, rfl, by show 2 ≤ sizeLine; decide, fun t nt => ?_⟩
            exact two _ (.ref t3) (.tell am) rm b016 p16.f ⟨va, ⟨t3, rfl, k3'⟩, hI16⟩ (by simp only [cntS]; omega) (by simp only [depS]; omega) ⟨hA.1, hA.2⟩ t nt
        · have hkc : kk = .ite ∨ kk = .inner ∨ kk = .either := by
            have h1 : ¬ (kk ∈ [Kw.write, Kw.lt, Kw.tell]) := fun z => c3 (decide_eq_true z)
            have h2 : kk ≠ .read := fun z => c2 (decide_eq_true z)
            have h3 := hkn
            cases kk <;> simp_all
          have hd2 : 2 ≤ dp := (hws kk hkw).2 hkc
          intro pd npd
          have e0 := same_upd (o := .dK []) npd
          have hp0 : upd H11 pd (.dK []) pd = some (.dK []) := upd_same
          have q0 := p11.same e0
          generalize upd H11 pd (.dK []) = H12 at e0 hp0 q0
          have rep : ∀ z : V, (List.replicate (3 : Int).toNat [z]).flatten = [z, z, z] := fun z => rfl
          -- more + ['out'] * 3
          refine ⟨_, rfl, _, rfl, by show 1 ≤ sizeLine; decide, fun a1 na1 => ?_⟩
          have e1 := same_upd (o := .lst [.str "out"]) na1
          have k1 : upd H12 a1 (.lst [.str "out"]) a1 = some (.lst [.str "out"]) := upd_same
          have q1 := q0.same e1
          have hp1 := e1 _ _ hp0
          generalize upd H12 a1 (.lst [.str "out"]) = H13 at e1 k1 q1 hp1
          refine ⟨a1, 3, _, rfl, rfl, k1, by decide, by decide, by show 1 * 3 ≤ sizeLine; decide, fun a2 na2 => ?_⟩
          rw [rep]
          have e2 := same_upd (o := .lst [.str "out", .str "out", .str "out"]) na2
          have k2 : upd H13 a2 (.lst [.str "out", .str "out", .str "out"]) a2 = some (.lst [.str "out", .str "out", .str "out"]) := upd_same
          have q2 := q1.same e2
          have hp2 := e2 _ _ hp1
          generalize upd H13 a2 (.lst [.str "out", .str "out", .str "out"]) = H14 at e2 k2 q2 hp2
          refine ⟨ml, a2, _, _, rfl, rfl, q2.ml, k2, by rw [List.length_map, sizeLine_eq]; show mw.length + 3 ≤ _; omega, fun o1 no1 => ?_⟩
          have e3 := same_upd (o := .lst (kV' (mw ++ [.out, .out, .out]))) no1
          have k3 : upd H14 o1 (.lst (kV' (mw ++ [.out, .out, .out]))) o1 = some (.lst (kV' (mw ++ [.out, .out, .out]))) := upd_same
          have q3 := q2.same e3
          have hp3 := e3 _ _ hp2
          rw [show kV' mw ++ [V.str "out", V.str "out", V.str "out"] = kV' (mw ++ [.out, .out, .out]) from by simp only [kV', List.map_append]; rfl]
          generalize upd H14 o1 (.lst (kV' (mw ++ [.out, .out, .out]))) = H15 at e3 k3 q3 hp3
          -- more + ['retry'] * 3
          refine ⟨_, rfl, by show 1 ≤ sizeLine; decide, fun a3 na3 => ?_⟩
          have e4 := same_upd (o := .lst [.str "retry"]) na3
          have k4 : upd H15 a3 (.lst [.str "retry"]) a3 = some (.lst [.str "retry"]) := upd_same
          have q4 := q3.same e4
          have hp4 := e4 _ _ hp3
          have k34 := e4 _ _ k3
          generalize upd H15 a3 (.lst [.str "retry"]) = H16 at e4 k4 q4 hp4 k34
          refine ⟨a3, 3, _, rfl, rfl, k4, by decide, by decide, by show 1 * 3 ≤ sizeLine; decide, fun a4 na4 => ?_⟩
          rw [rep]
          have e5 := same_upd (o := .lst [.str "retry", .str "retry", .str "retry"]) na4
          have k5 : upd H16 a4 (.lst [.str "retry", .str "retry", .str "retry"]) a4 = some (.lst [.str "retry", .str "retry", .str "retry"]) := upd_same
          have q5 := q4.same e5
          have hp5 := e5 _ _ hp4
          have k35 := e5 _ _ k34
          generalize upd H16 a4 (.lst [.str "retry", .str "retry", .str "retry"]) = H17 at e5 k5 q5 hp5 k35
          refine ⟨ml, a4, _, _, rfl, rfl, q5.ml, k5, by rw [List.length_map, sizeLine_eq]; show mw.length + 3 ≤ _; omega, fun o2 no2 => ?_⟩
          have e6 := same_upd (o := .lst (kV' (mw ++ [.retry, .retry, .retry]))) no2
          have k6 : upd H17 o2 (.lst (kV' (mw ++ [.retry, .retry, .retry]))) o2 = some (.lst (kV' (mw ++ [.retry, .retry, .retry]))) := upd_same
          have q6 := q5.same e6
          have hp6 := e6 _ _ hp5
          have k36 := e6 _ _ k35
          rw [show kV' mw ++ [V.str "retry", V.str "retry", V.str "retry"] = kV' (mw ++ [.retry, .retry, .retry]) from by simp only [kV', List.map_append]; rfl]
          generalize upd H17 o2 (.lst (kV' (mw ++ [.retry, .retry, .retry]))) = H18 at e6 k6 q6 hp6 k36
          have s18 : Same H11 H18 := Same.trans e0 (Same.trans e1 (Same.trans e2 (Same.trans e3 (Same.trans e4 (Same.trans e5 e6)))))
          refine ⟨hp6, [(Sum.inr "if", .ref ml), (Sum.inr "inner", .ref o1), (Sum.inr "either", .ref o2)], rfl, by show 3 ≤ 15; omega, ?_⟩
          have e19 : Same H11 (upd H18 pd (.dK (mergeK [] [(Sum.inr "if", .ref ml), (Sum.inr "inner", .ref o1), (Sum.inr "either", .ref o2)]))) := same_set s18 npd
          have hpd : upd H18 pd (.dK (mergeK [] [(Sum.inr "if", .ref ml), (Sum.inr "inner", .ref o1), (Sum.inr "either", .ref o2)])) pd = some (.dK [(Sum.inr "if", .ref ml), (Sum.inr "inner", .ref o1), (Sum.inr "either", .ref o2)]) := upd_same
          have k1' : upd H18 pd (.dK (mergeK [] [(Sum.inr "if", .ref ml), (Sum.inr "inner", .ref o1), (Sum.inr "either", .ref o2)])) o1 = some (.lst (kV' (mw ++ [.out, .out, .out]))) := by
            rw [upd_ne (fun z => by rw [z, hp6] at k36; cases k36)]
            exact k36
          have k2' : upd H18 pd (.dK (mergeK [] [(Sum.inr "if", .ref ml), (Sum.inr "inner", .ref o1), (Sum.inr "either", .ref o2)])) o2 = some (.lst (kV' (mw ++ [.retry, .retry, .retry]))) := by
            rw [upd_ne (fun z => by rw [z, hp6] at k6; cases k6)]
            exact k6
          generalize upd H18 pd (.dK (mergeK [] [(Sum.inr "if", .ref ml), (Sum.inr "inner", .ref o1), (Sum.inr "either", .ref o2)])) = H19 at e19 hpd k1' k2'
          have p19 := p11.same e19
          have b019 := b011.trans (Same.but e19)
          have hI19 := hI11.mono (Same.tle e19)
          -- the words of its own
          obtain ⟨own, mw', hget, hown, hmo, hmz'⟩ : ∃ (own : Addr) (mw' : List Kw), DGet H19 pd (.str (kwN kk)) (some (.ref own)) ∧ H19 own = some (.lst (kV' mw')) ∧ (∀ k ∈ mw', k = .out ∨ k = .retry) ∧ mw'.length + 3 * (dp - 1) ≤ 60 := by
            have h60 := p.mz
            rcases hkc with rfl | rfl | rfl
            · exact ⟨ml, mw, DGet.k (k := Sum.inr "if") hpd, p19.ml, p.mo, by omega⟩
            · refine ⟨o1, _, DGet.k (k := Sum.inr "inner") hpd, k1', fun k hk => ?_, by rw [List.length_append]; show mw.length + 3 + _ ≤ 60; omega⟩
              rcases List.mem_append.mp hk with h | h
              · exact p.mo k h
              · exact .inl (by simpa using h)
            · refine ⟨o2, _, DGet.k (k := Sum.inr "either") hpd, k2', fun k hk => ?_, by rw [List.length_append]; show mw.length + 3 + _ ≤ 60; omega⟩
              rcases List.mem_append.mp hk with h | h
              · exact p.mo k h
              · exact .inr (by simpa using h)
          refine ⟨_, rfl, pd, _, rfl, hget, ?_⟩
          have edp : V.int ((dp : Int) - 1) = V.int ((dp - 1 : Nat) : Int) := by congr 1; omega
          refine ⟨_, rfl, _, rfl, _, rfl, _, rfl, _, _, rfl, rfl, _, rfl, fd, cl, sc, own, names, m, mw', rm, dp - 1, ?_, ⟨p19.f, p19.s, hown, p.n0, p.n1, p.nx, p.m0, p.m1, hmo, hmz', by omega⟩, hrm, by omega, fun H20 tr1 v1 p1' rm1 b20 f20 ht20 hv1 hc1 hdp1 ho1 => ?_⟩
          · show [V.ref fd, V.ref sc, V.int (rm : Int), V.int ((dp : Int) - 1), V.ref own] = _
            rw [edp]
          have p20 := p19.but f20 b20
          refine ⟨tr1, _, rfl, SqT.of ht20, rfl, _, _, rfl, _, _, rfl, rfl, ?_⟩
          refine ⟨_, rfl, _, rfl, _, rfl, _, rfl, _, _, rfl, rfl, _, rfl, fd, cl, sc, ml, names, m, mw, rm1, dp - 1, ?_, ⟨p20.f, p20.s, p20.ml, p.n0, p.n1, p.nx, p.m0, p.m1, p.mo, by have := p.mz; omega, by omega⟩, by omega, by omega, fun H21 tr2 v2 p2' rm2 b21 f21 ht21 hv2 hc2 hdp2 ho2 => ?_⟩
          · show [V.ref fd, V.ref sc, V.int (rm1 : Int), V.int ((dp : Int) - 1), V.ref ml] = _
            rw [edp]
          refine ⟨tr2, _, rfl, SqT.of ht21, rfl, _, _, rfl, _, _, rfl, rfl, ?_⟩
          have b021 := b019.trans (b20.trans b21)
          have tl21 := p20.f.tle b21
          have hv1' := hv1.mono tl21
          have hI21 := hI19.mono (TLe.trans (p19.f.tle b20) tl21)
          obtain ⟨u1, us1, rfl, hu1, hus1⟩ := hv1'
          obtain ⟨u2, us2, rfl, hu2, hus2⟩ := hv2
          refine ⟨_, rfl, rfl, _, rfl, ?_⟩
          rw [show (Str.ofString "if") = kwN .ite from rfl, dec_kw]
          refine ite2 (fun c4 => ?_) (fun c4 => ?_)
          · obtain rfl : kk = .ite := of_decide_eq_true c4
            refine ⟨_, rfl, _, rfl, _, rfl, _, rfl, by show 4 ≤ sizeLine; decide, fun t1 nt1 => ⟨_, rfl, by show 2 ≤ sizeLine; decide, fun t nt => ?_⟩⟩
            have st := same_upd (o := .tup [.str (kwN .ite), va, .ref u1, .ref u2]) nt1
            exact two _ (.ref t1) (.ite am p1' p2') rm2 (b021.trans (Same.but st)) (f21.same st) ⟨va, u1, u2, us1, us2, ⟨t1, rfl, upd_same⟩, hI21.mono (Same.tle st), ⟨st _ _ hu1, hus1.mono (Same.tle st)⟩, ⟨st _ _ hu2, hus2.mono (Same.tle st)⟩⟩ (by simp only [cntS]; omega) (by simp only [depS]; omega) ⟨hA, ho1, ho2⟩ t nt
          · refine ⟨_, rfl, _, rfl, _, rfl, by show 3 ≤ sizeLine; decide, fun t1 nt1 => ⟨_, rfl, by show 2 ≤ sizeLine; decide, fun t nt => ?_⟩⟩
            have st := same_upd (o := .tup [.str (kwN kk), .ref u1, .ref u2]) nt1
            rcases hkc with rfl | rfl | rfl
            · exact absurd rfl c4
            · exact two _ (.ref t1) (.inner p1' p2') rm2 (b021.trans (Same.but st)) (f21.same st) ⟨u1, u2, us1, us2, ⟨t1, rfl, upd_same⟩, ⟨st _ _ hu1, hus1.mono (Same.tle st)⟩, ⟨st _ _ hu2, hus2.mono (Same.tle st)⟩⟩ (by simp only [cntS]; omega) (by simp only [depS]; omega) ⟨ho1, ho2⟩ t nt
            · exact two _ (.ref t1) (.either p1' p2') rm2 (b021.trans (Same.but st)) (f21.same st) ⟨u1, u2, us1, us2, ⟨t1, rfl, upd_same⟩, ⟨st _ _ hu1, hus1.mono (Same.tle st)⟩, ⟨st _ _ hu2, hus2.mono (Same.tle st)⟩⟩ (by simp only [cntS]; omega) (by simp only [depS]; omega) ⟨ho1, ho2⟩ t nt
/-- drawn programs, by the depth -/
theorem ok_law_prog (Fs : Fd K mg "_law_step" s_law_step psProg) (Fp : Fd K mg "_law_program" s_law_program psProg) (D : Cal P w K mg base 1 "_law_draw" ["_law_feed_here", "_law_many"] spDraw) (SmC : Cal P w K mg base 7 "_law_sum" ["_law_feed_here", "_law_names_here", "_law_within"] (spLSum 5)) (gn : mg "len" = none) (gr : mg "range" = none) (gt : mg "tuple" = none) :
    ∀ n, Cal P w K mg base (2 * n + 7) "_law_program" psProg (spProg n)
  | 0 => Fp.none fun vs H Q ⟨_, _, _, _, _, _, _, _, _, _, _, _, h, _⟩ => absurd h (Nat.not_lt_zero _)
  | n + 1 => by
    have Pg := ok_law_prog Fs Fp D SmC gn gr gt n
    exact ok_law_program (k := 2 * n + 8) Fp (D.mono (by omega)) (ok_law_step (k := 2 * n + 7) Fs (D.mono (by omega)) (SmC.mono (by omega)) Pg gn) gr gt
end
end Pk
-- ## PkNames
set_option Elab.async false
set_option linter.all false
set_option maxRecDepth 100000
set_option maxHeartbeats 4000000
namespace Pk
open PySem PySem.Spec PyProof.Rows L2
abbrev N_law_names : List Str := ["_law_feed_here", "_law_many", "_law_letters", "_law_found", "_law_at", "_law_k", "_law_j", "_law_tail", "_law_some"]
theorem sc_law_names : FnScope N_law_names ["_law_feed_here", "_law_many"] (defScope s_law_names) := ⟨rfl, rfl, rfl, by decide +kernel, rfl, by decide +kernel, by decide +kernel⟩
def spNames : SpN := fun vs H Q => ∃ (fd cl : Addr) (m : Nat), vs = [.ref fd, .int (m : Int)] ∧ IsFd H fd cl ∧ 1 ≤ m ∧ m ≤ 4 ∧
  ∀ H' l names, But (· = fd) H H' → IsFd H' fd cl → l ≠ sysModules → H' l = some (.lst (names.map V.str)) → names ≠ [] → names.length ≤ 4 → (∀ x ∈ names, gX x) → Q (.ref l) H'
/-- one sign -/
def gC (y : Str) : Prop := ∃ c, y = ⟨#[c]⟩ ∧ c < 128
def allC (x : Str) : Prop := ∀ c ∈ x.cps.toList, c < 128
theorem gX_of {x : Str} (h1 : x.cps.size ≤ 8) (h2 : allC x) : gX x := ⟨h1, by
  rw [List.all_eq_true]
  intro c hc
  have := h2 c hc
  exact decide_eq_true (Nat.lt_trans this (by decide))⟩
theorem allC_app {x y : Str} (h1 : allC x) (h2 : allC y) : allC (x ++ y) := fun c hc => by
  have : c ∈ x.cps.toList ++ y.cps.toList := by
    rw [← Array.toList_append]
    exact hc
  rcases List.mem_append.mp this with h | h
  · exact h1 c h
  · exact h2 c h
theorem gC.all {y : Str} (h : gC y) : allC y := by
  obtain ⟨c, rfl, hc⟩ := h
  intro d hd
  have : d = c := by simpa using hd
  rw [this]
  exact hc
theorem join_len (ys : List Str) (h : ∀ y ∈ ys, gC y) : (Txt.join "" ys).cps.size ≤ ys.length ∧ allC (Txt.join "" ys) := by
  rw [show Txt.join "" ys = Str.join "" ys from StrLaws.glued_eq_join _ _]
  induction ys with
  | nil => exact ⟨Nat.le_refl _, fun c hc => by cases hc⟩
  | cons y r ih =>
    have ihr := ih fun z hz => h z (List.mem_cons_of_mem _ hz)
    have hy := h y List.mem_cons_self
    have hys : y.cps.size = 1 := by obtain ⟨c, rfl, _⟩ := hy; rfl
    cases r with
    | nil =>
      refine ⟨?_, hy.all⟩
      show y.cps.size ≤ 1
      omega
    | cons z t =>
      have e : Str.join "" (y :: z :: t) = y ++ ("" : Str) ++ Str.join "" (z :: t) := rfl
      rw [e]
      refine ⟨?_, allC_app (allC_app hy.all (fun c hc => by cases hc)) ihr.2⟩
      show (y.cps ++ #[] ++ (Str.join "" (z :: t)).cps).size ≤ _
      rw [Array.size_append, Array.size_append]
      have := ihr.1
      simp only [List.length_cons] at this ⊢
      simp
      omega
theorem letter_at : ∀ j : Nat, j < 26 → ∃ c, (("abcdefghijklmnopqrstuvwxyz" : Str).cps.toList)[j]? = some c ∧ c < 128 := by
  intro j hj
  have : ∀ j : Fin 26, ∃ c, (("abcdefghijklmnopqrstuvwxyz" : Str).cps.toList)[j.1]? = some c ∧ c < 128 := by
    intro j
    have h : (("abcdefghijklmnopqrstuvwxyz" : Str).cps.toList).length = 26 := by decide +kernel
    refine ⟨(("abcdefghijklmnopqrstuvwxyz" : Str).cps.toList)[j.1]'(by rw [h]; exact j.2), List.getElem?_eq_getElem _, ?_⟩
    have ha : (("abcdefghijklmnopqrstuvwxyz" : Str).cps.toList).all (fun c => decide (c < 128)) = true := by decide +kernel
    exact of_decide_eq_true (List.all_eq_true.mp ha _ (List.getElem_mem _))
  exact this ⟨j, hj⟩
section
variable {P : Program} {w : World} {K : PySem.W.Frag} {mg : Str → Option Value} {base : Heap} {k : Nat}
theorem ok_law_names (F : Fd K mg "_law_names" s_law_names ["_law_feed_here", "_law_many"]) (D : Cal P w K mg base k "_law_draw" ["_law_feed_here", "_law_many"] spDraw) (gr : mg "range" = none) (gs : mg "sorted" = none) (gt : mg "set" = none) : Cal P w K mg base (k + 1) "_law_names" ["_law_feed_here", "_law_many"] spNames := by
  refine F.ok sc_law_names (fun vs H Q ⟨_, _, _, h, _⟩ => by rw [h]; rfl) fun f cdv A outer s0 H vs Q E hr h => ?_
  obtain ⟨fd, cl, m, rfl, hF, hm1, hm4, q⟩ := h
  refine ⟨_, pss_cons (ps_set (i := 2) sc_law_names.nd rfl (.inr rfl) pe_str)
    (pss_cons (ps_set (i := 3) sc_law_names.nd rfl (.inl rfl) (pe_lst pa_nil))
    (pss_cons (ps_set (i := 4) sc_law_names.nd rfl (.inl rfl) (pe_cal D hr rfl (pa_cons (pv 0) (pa_cons pe_int pa_nil))))
    (pss_cons (ps_for PassesOwn.never rfl (pi_range1 rfl gr (pa_cons (pv 1) pa_nil)) (pg_name (i := 5) sc_law_names.nd rfl (.inl rfl))
      (pss_cons (ps_set (i := 4) sc_law_names.nd rfl (.inl rfl) (pe_op op_add (pv 4) pe_int))
      (pss_cons (ps_setLc (i := 7) (own := [("_law_j", 6)]) (g := gName 6) (tt := tYes) (te := tOp rIxS (tVar 2) (tCal spDraw (tCons (tVar 0) (tCons (tC (.int 26)) tNil)))) (by rfl) sc_law_names.nd rfl rfl (sw_true rfl rfl rfl (by decide +kernel))
          (pi_range1 rfl gr (pa_cons (pe_ix ix_list (pe_lst (pa_cons pe_int (pa_cons pe_int (pa_cons pe_int (pa_cons pe_int pa_nil))))) (pe_cal D hr rfl (pa_cons (pv 0) (pa_cons pe_int pa_nil))) (fun _ _ => rfl)) pa_nil)) (blkOk_by (N := N_law_names) (sc := defScope s_law_names) (by decide +kernel))
          (fun _ _ _ _ _ => pg_name (i := 6) sc_law_names.nd rfl (.inl rfl)) (fun _ _ _ _ _ => pts_nil) (fun _ _ _ _ _ => pe_ix ix_str (pv 2) (pe_cal D hr rfl (pa_cons (pv 0) (pa_cons pe_int pa_nil))) (fun _ _ => rfl)))
      (pss_one (ps_expr (pe_bm PySem.F.plainAttrs_list PySem.F.slot_list_append PySem.F.type_list_append mt_append (pv 3) (pa_cons (pe_op op_add_str (pe_ix ix_str (pv 2) (pe_op op_mod (pv 4) pe_int) (fun _ _ => rfl)) (pe_bm PySem.F.plainAttrs_str PySem.F.slot_str_join PySem.F.type_str_join mt_join pe_str (pa_cons (pv 7) pa_nil))) pa_nil)))))))
    (pss_cons (ps_set (i := 8) sc_law_names.nd rfl (.inl rfl) (pe_lst (pa_cons pe_str (pa_cons pe_str (pa_cons pe_str (pa_cons pe_str (pa_cons pe_str (pa_cons pe_str pa_nil))))))))
    (pss_cons (ps_if (pt_cmpR op_eq (pe_cal D hr rfl (pa_cons (pv 0) (pa_cons pe_int pa_nil))) pe_int (nomark _))
      (pss_one (ps_asg (pe_ix ix_list (pv 8) (pe_cal D hr rfl (pa_cons (pv 0) (pa_cons pe_int pa_nil))) (fun _ _ => rfl)) (pg_sub (pv 3) (pe_cal D hr rfl (pa_cons (pv 0) (pa_cons (pv 1) pa_nil))) set_list (fun _ => rfl)))) pss_nil)
    (pss_one (ps_ret (pe_callB (cr_sortTxt rfl) (by rfl) gs (by decide +kernel) (pa_cons (pe_callTy (cr_setTxt rfl) (by rfl) gt (by decide +kernel) (pa_cons (pv 3) pa_nil)) pa_nil))))))))), ?_⟩
  have lets : ∀ (i : Int) (H' : Hp) (Q' : VK), 0 ≤ i → i < 26 → (∀ y, gC y → Q' (.str y) H') → rIxS (.str "abcdefghijklmnopqrstuvwxyz") (.int i) H' Q' := fun i H' Q' h0 h1 q' => by
    obtain ⟨j, rfl, hj⟩ := nat_of h0 h1
    obtain ⟨c, hc, h128⟩ := letter_at j (by omega)
    exact ⟨_, _, c, rfl, rfl, by decide +kernel, atI_nat hc, q' _ ⟨c, rfl, h128⟩⟩
  refine ⟨Nat.zero_le _, fun r nr => ?_⟩
  have sr := same_upd (o := .lst []) nr
  have hr0 : upd H r (.lst []) r = some (.lst []) := upd_same
  have rf : r ≠ fd := hF.none nr
  have rc : r ≠ cl := hF.none2 nr
  have f0 := hF.same sr
  generalize upd H r (.lst []) = H0 at sr hr0 f0
  refine ⟨_, rfl, fd, cl, 26, rfl, f0, by decide, by decide, fun H1 r1 b1 f1 r10 r11 => ?_⟩
  have hr1 := b1 _ _ hr0 rf
  have b01 := (Same.but sr).trans b1
  refine ⟨_, rfl, (m : Int), rfl, by omega, by omega, for_it (walk_rng (n := (m : Int).toNat)) (fun i σ H' => ∃ (a : Int) (y5 y6 y7 : Option V) (zs : List Str), σ = [some (.ref fd), some (.int (m : Int)), some (.str "abcdefghijklmnopqrstuvwxyz"), some (.ref r), some (.int a), y5, y6, y7, none] ∧ But (· = fd) H H' ∧ IsFd H' fd cl ∧ H' r = some (.lst (zs.map V.str)) ∧ zs.length = i ∧ (∀ x ∈ zs, gX x))
    ⟨r1, none, none, none, [], rfl, b01, f1, hr1, rfl, fun x hx => by simp at hx⟩ (fun _ _ _ _ _ => trivial) (fun i x σ H2 H3 hi ⟨a, y5, y6, y7, zs, e1, b2, f2, hr2, hzl, hzx⟩ hY => ?_) (fun σ H' ⟨a, y5, y6, y7, zs, e1, b2, f2, hr2, hzl, hzx⟩ => ?_)⟩
  · obtain ⟨e2, hx⟩ := hY
    subst e1 e2 hx
    refine ⟨_, rfl, _, _, rfl, rfl, ?_⟩
    refine ⟨by show 4 ≤ sizeLine; decide, fun p4 np4 => ?_⟩
    have s4 := same_upd (o := .lst [.int 0, .int 0, .int 1, .int 7]) np4
    have h4 : upd H3 p4 (.lst [.int 0, .int 0, .int 1, .int 7]) p4 = some (.lst [.int 0, .int 0, .int 1, .int 7]) := upd_same
    have f4 := f2.same s4
    have hr4 := s4 _ _ hr2
    generalize upd H3 p4 (.lst [.int 0, .int 0, .int 1, .int 7]) = H4 at s4 h4 f4 hr4
    refine ⟨_, rfl, fd, cl, 4, rfl, f4, by decide, by decide, fun H5 r5 b5 f5 r50 r51 => ?_⟩
    have hr5 := b5 _ _ hr4 rf
    have h45 := b5 _ _ h4 (f4.ne_lst h4)
    have b05 := b2.trans ((Same.but s4).trans b5)
    obtain ⟨nt, hnt, hn7⟩ : ∃ nt : Nat, atI [V.int 0, .int 0, .int 1, .int 7] r5 = some (.int (nt : Int)) ∧ nt ≤ 7 := by
      have : r5 = 0 ∨ r5 = 1 ∨ r5 = 2 ∨ r5 = 3 := by omega
      rcases this with rfl | rfl | rfl | rfl
      · exact ⟨0, rfl, by decide⟩
      · exact ⟨0, rfl, by decide⟩
      · exact ⟨1, rfl, by decide⟩
      · exact ⟨7, rfl, by decide⟩
    refine ⟨p4, _, r5, .int (nt : Int), rfl, rfl, SqL.of h45, hnt, (nt : Int), rfl, by omega, by omega, fun D nD => ?_⟩
    have Df : D ≠ fd := f5.none nD
    have Dc : D ≠ cl := f5.none2 nD
    have Dr : D ≠ r := fun z => by rw [z, hr5] at nD; cases nD
    refine lc_it (walk_rng (n := (nt : Int).toNat)) (fun j H' => But (· = fd) H5 H' ∧ IsFd H' fd cl ∧ ∃ ys : List Str, H' D = some (.lst (ys.map V.str)) ∧ ys.length = j ∧ ∀ y ∈ ys, gC y) ⟨Same.but (same_upd nD), f5.same (same_upd nD), [], upd_same, rfl, fun y hy => by simp at hy⟩ (fun _ _ _ _ => trivial) (fun j x H6 H7 hj ⟨b6, f6, ys, hD, hyl, hyc⟩ hY => ?_) (fun H' ⟨b6, f6, ys, hD, hyl, hyc⟩ => ?_)
    · obtain ⟨e7, hx7⟩ := hY
      subst e7 hx7
      refine ⟨rfl, tyes ⟨_, rfl, _, rfl, fd, cl, 26, rfl, f6, by decide, by decide, fun H8 r8 b8 f8 r80 r81 => lets r8 H8 _ r80 r81 fun y hy => ⟨_, b8 _ _ hD Df, ?_, ?_, f8.upd Df Dc, ys ++ [y], by rw [upd_same, List.map_append]; rfl, ?_, ?_⟩⟩⟩
      · rw [List.length_map, hyl]
        have : (nt : Int).toNat = nt := by omega
        rw [this] at hj
        exact Nat.lt_of_lt_of_le hj (Nat.le_trans hn7 (by decide))
      · exact but_new (b6.trans b8) nD
      · rw [List.length_append, hyl]
        rfl
      · intro z hz
        rcases List.mem_append.mp hz with h | h
        · exact hyc z h
        · rw [List.mem_singleton.mp h]
          exact hy
    · have hr6 := b6 _ _ hr5 rf
      have hyl7 : ys.length ≤ 7 := by rw [hyl]; omega
      obtain ⟨hj1, hj2⟩ := join_len ys hyc
      have hsum : (ys.map (·.length)).sum ≤ 7 := by
        have : ∀ l : List Str, (∀ y ∈ l, gC y) → (l.map (·.length)).sum = l.length := by
          intro l
          induction l with
          | nil => intro _; rfl
          | cons y t ih =>
            intro hl
            obtain ⟨c, rfl, _⟩ := hl y List.mem_cons_self
            rw [List.map_cons, List.sum_cons, ih fun z hz => hl z (List.mem_cons_of_mem _ hz), List.length_cons]
            show 1 + t.length = _
            omega
        rw [this ys hyc]
        exact hyl7
      refine ⟨.ref r, rfl, .inl ⟨rfl, _, SqL.of hr6⟩, _, rfl, _, rfl, _, _, rfl, rfl, (show (0 : Int) < 26 by decide), ?_⟩
      refine lets _ H' _ (Int.emod_nonneg _ (by decide)) (Int.emod_lt_of_pos _ (by decide)) fun y hy => ?_
      have hys : y.cps.size = 1 := by obtain ⟨c, rfl, _⟩ := hy; rfl
      refine ⟨rfl, _, rfl, _, D, ys, rfl, rfl, .inl (SqL.of hD), by show _ + ys.length * 0 ≤ _; omega, ?_⟩
      have hlen : (y ++ Txt.join "" ys).cps.size ≤ 8 := by
        show (y.cps ++ (Txt.join "" ys).cps).size ≤ 8
        rw [Array.size_append]
        omega
      refine ⟨_, _, rfl, rfl, ?_, ?_⟩
      · show y.cps.size + (Txt.join "" ys).cps.size ≤ sizeLine
        rw [sizeLine_eq]
        omega
      refine ⟨r, _, _, rfl, rfl, hr6, by rw [List.length_map, hzl, sizeLine_eq]; omega, ?_⟩
      refine ⟨a + 1, _, _, _, zs ++ [y ++ Txt.join "" ys], rfl, but_new (b05.trans b6) nr, f6.upd rf rc, by rw [upd_same, List.map_append]; rfl, by rw [List.length_append, hzl]; rfl, fun z hz => ?_⟩
      rcases List.mem_append.mp hz with h | h
      · exact hzx z h
      · rw [List.mem_singleton.mp h]
        exact gX_of hlen (allC_app hy.all hj2)
  · subst e1
    have hzm : zs.length = m := by omega
    -- the end: any list of short texts
    have fin : ∀ (H' : Hp) (zs : List Str), But (· = fd) H H' → IsFd H' fd cl → H' r = some (.lst (zs.map V.str)) → zs.length = m → (∀ x ∈ zs, gX x) → rSetTxt K P w [.ref r] H' fun x H2 => rSortTxt P w [x] H2 Q := fun H' zs b f hz hl hx => by
      refine ⟨r, zs, rfl, SqL.of hz, by omega, fun p np => ?_⟩
      have sp := same_upd (o := SetTO P w p (· ∈ zs) zs.length) np
      refine ⟨p, _, _, rfl, upd_same, by omega, by omega, fun ys l y0 y1 y2 nl ns => ?_⟩
      have sl := same_upd (o := .lst (ys.map V.str)) nl
      refine q _ l ys (b.trans (Same.but (Same.trans sp sl))) (f.same (Same.trans sp sl)) ns upd_same (List.length_pos_iff.mp y0) (by omega) fun x hx2 => hx x (y2 x hx2)
    refine ⟨by show 6 ≤ sizeLine; decide, fun p6 np6 => ?_⟩
    have s6 := same_upd (o := .lst [.str "out", .str "read", .str "slot", .str "num", .str "if", .str "retry"]) np6
    have h6 : upd H' p6 (.lst [.str "out", .str "read", .str "slot", .str "num", .str "if", .str "retry"]) p6 = some (.lst [.str "out", .str "read", .str "slot", .str "num", .str "if", .str "retry"]) := upd_same
    have f6 := f2.same s6
    have hr6 := s6 _ _ hr2
    have b06 := b2.trans (Same.but s6)
    show tSeq _ _ _ [some (.ref fd), some (.int (m : Int)), some (.str "abcdefghijklmnopqrstuvwxyz"), some (.ref r), some (.int a), y5, y6, y7, some (.ref p6)] (upd H' p6 (.lst [.str "out", .str "read", .str "slot", .str "num", .str "if", .str "retry"]))
    generalize upd H' p6 (.lst [.str "out", .str "read", .str "slot", .str "num", .str "if", .str "retry"]) = H6 at s6 h6 f6 hr6 b06
    refine ⟨_, rfl, fd, cl, 3, rfl, f6, by decide, by decide, fun H7 r7 b7 f7 r70 r71 => ?_⟩
    have hr7 := b7 _ _ hr6 rf
    have h67 := b7 _ _ h6 (f6.ne_lst h6)
    have b07 := b06.trans b7
    refine ⟨rfl, _, rfl, ?_⟩
    refine ite2 (fun c => ?_) (fun c => ?_)
    · refine ⟨_, rfl, _, rfl, fd, cl, 6, rfl, f7, by decide, by decide, fun H8 r8 b8 f8 r80 r81 => ?_⟩
      have hr8 := b8 _ _ hr7 rf
      have h68 := b8 _ _ h67 (f7.ne_lst h67)
      obtain ⟨z, hz, hzg⟩ : ∃ z : Str, atI [V.str "out", .str "read", .str "slot", .str "num", .str "if", .str "retry"] r8 = some (.str z) ∧ gX z := by
        have : r8 = 0 ∨ r8 = 1 ∨ r8 = 2 ∨ r8 = 3 ∨ r8 = 4 ∨ r8 = 5 := by omega
        rcases this with rfl | rfl | rfl | rfl | rfl | rfl
        · exact ⟨"out", rfl, by unfold gX; decide +kernel⟩
        · exact ⟨"read", rfl, by unfold gX; decide +kernel⟩
        · exact ⟨"slot", rfl, by unfold gX; decide +kernel⟩
        · exact ⟨"num", rfl, by unfold gX; decide +kernel⟩
        · exact ⟨"if", rfl, by unfold gX; decide +kernel⟩
        · exact ⟨"retry", rfl, by unfold gX; decide +kernel⟩
      refine ⟨p6, _, r8, .str z, rfl, rfl, SqL.of h68, hz, ?_⟩
      refine ⟨_, rfl, _, rfl, _, rfl, fd, cl, _, rfl, f8, by omega, by omega, fun H9 r9 b9 f9 r90 r91 => ?_⟩
      have hr9 := b9 _ _ hr8 rf
      obtain ⟨j, rfl, hj⟩ := nat_of r90 r91
      refine ⟨r, _, (j : Int), j, rfl, rfl, hr9, ?_, ?_⟩
      · unfold ixN
        rw [List.length_map, if_pos (by omega), if_pos (by omega)]
        congr 1
      · rw [show (zs.map V.str).set j (V.str z) = (zs.set j z).map V.str from (List.map_set ..).symm]
        exact ⟨_, rfl, fin _ (zs.set j z) (but_new (b07.trans (b8.trans b9)) nr) (f9.upd rf rc) upd_same (by rw [List.length_set]; exact hzm) fun x hx => by
          rcases List.mem_or_eq_of_mem_set hx with h | h
          · exact hzx x h
          · rw [h]; exact hzg⟩
    · exact ⟨_, rfl, fin H7 zs b07 f7 hr7 hzm hzx⟩
end
end Pk
-- ## PkScene
set_option Elab.async false
set_option linter.all false
set_option maxRecDepth 100000
set_option maxHeartbeats 4000000
namespace Pk
open PySem PySem.Spec PyProof.Rows L2
/-- the scene -/
structure Sc where
  names : List Str
  m : Nat
  cs : List Int
  kvs : List (Str × Int)
structure ScOk (S : Sc) : Prop where
  n0 : S.names ≠ []
  n1 : S.names.length ≤ 4
  nx : ∀ x ∈ S.names, gX x
  m0 : 1 ≤ S.m
  m1 : S.m ≤ 8
  cl : S.cs.length = S.m
  cb : ∀ i ∈ S.cs, i.natAbs ≤ 10 ^ 59 + 100
  kl : S.kvs.length ≤ 4
  kx : ∀ p ∈ S.kvs, gX p.1 ∧ p.2.natAbs ≤ 10 ^ 6
def IsSc (K : PySem.W.Frag) (H0 H : Hp) (sc : Addr) (S : Sc) : Prop := ∃ nl ct st ps, H sc = some (.dK (scT nl (S.m : Int) ct st)) ∧ H nl = some (.lst (S.names.map V.str)) ∧ nl ≠ sysModules ∧ SqT K H ct (S.cs.map V.int) ∧ TupD K H st (ps.map V.ref) ∧ Paired (fun p (kv : Str × Int) => SqT K H p [.str kv.1, .int kv.2]) ps S.kvs
theorem paired_snoc {α β : Type} {F : α → β → Prop} {a : α} {b : β} (z : F a b) : ∀ {xs : List α} {ys : List β}, Paired F xs ys → Paired F (xs ++ [a]) (ys ++ [b])
  | _, _, .nil => .cons z .nil
  | _, _, .cons h t => .cons h (paired_snoc z t)
theorem IsFd.sqT {K : PySem.W.Frag} {H H' : Hp} {fd cl a : Addr} {xs : List V} (f : IsFd H fd cl) (b : But (· = fd) H H') (h : SqT K H a xs) : SqT K H' a xs := by
  have f' := f
  obtain ⟨_, _, _, _, hf, _⟩ := f'
  rcases h with (h | ⟨o, h⟩) | h
  · exact .inl (.inl (b _ _ h (fun e => by rw [e, hf] at h; cases h)))
  · exact .inl (.inr ⟨o, b _ _ h (fun e => by rw [e, hf] at h; cases h)⟩)
  · exact .inr h
theorem IsFd.tupD {K : PySem.W.Frag} {H H' : Hp} {fd cl a : Addr} {xs : List V} (f : IsFd H fd cl) (b : But (· = fd) H H') (h : TupD K H a xs) : TupD K H' a xs := by
  obtain ⟨_, _, _, _, hf, _⟩ := f
  exact h.keep fun o u e => b _ _ e (fun z => by rw [z, hf] at e; cases e)
theorem IsSc.sn {K : PySem.W.Frag} {H0 H : Hp} {sc : Addr} {S : Sc} (h : IsSc K H0 H sc S) : IsSn H sc S.names S.m := by
  obtain ⟨nl, ct, st, ps, h1, h2, _⟩ := h
  exact ⟨nl, ct, st, h1, h2⟩
theorem IsSc.but {K : PySem.W.Frag} {H0 H H' : Hp} {fd cl sc : Addr} {S : Sc} (h : IsSc K H0 H sc S) (f : IsFd H fd cl) (b : But (· = fd) H H') : IsSc K H0 H' sc S := by
  have hne := h.sn.ne f
  obtain ⟨nl, ct, st, ps, h1, h2, h3, h4, h5, h6⟩ := h
  exact ⟨nl, ct, st, ps, b _ _ h1 hne, b _ _ h2 (f.ne_lst h2), h3, f.sqT b h4, f.tupD b h5, paired_imp (fun a kv z => f.sqT b z) h6⟩
theorem IsSc.same {K : PySem.W.Frag} {H0 H H' : Hp} {sc : Addr} {S : Sc} (h : IsSc K H0 H sc S) (e : Same H H') : IsSc K H0 H' sc S := by
  obtain ⟨nl, ct, st, ps, h1, h2, h3, h4, h5, h6⟩ := h
  exact ⟨nl, ct, st, ps, e _ _ h1, e _ _ h2, h3, Same.sqT e h4, h5.keep fun o u z => e _ _ z, paired_imp (fun a kv z => Same.sqT e z) h6⟩
abbrev N_law_scene : List Str := ["_law_feed_here", "_law_names_here", "_law_many", "_law_cells", "_law_k", "_law_far", "_law_name", "_law_given"]
theorem sc_law_scene : FnScope N_law_scene ["_law_feed_here"] (defScope s_law_scene) := ⟨rfl, rfl, rfl, by decide +kernel, rfl, by decide +kernel, by decide +kernel⟩
abbrev N_law_any : List Str := ["_law_feed_here", "_law_scene_here", "_law_more"]
theorem sc_law_any : FnScope N_law_any ["_law_feed_here", "_law_scene_here"] (defScope s_law_any) := ⟨rfl, rfl, rfl, by decide +kernel, rfl, by decide +kernel, by decide +kernel⟩
def spScene (K : PySem.W.Frag) : SpN := fun vs H Q => ∃ (fd cl : Addr), vs = [.ref fd] ∧ IsFd H fd cl ∧ ∀ H' sc S, But (· = fd) H H' → IsFd H' fd cl → IsSc K H H' sc S → ScOk S → Q (.ref sc) H'
def spAny : SpN := fun vs H Q => ∃ (fd cl sc : Addr) (names : List Str) (m : Nat), vs = [.ref fd, .ref sc] ∧ IsFd H fd cl ∧ IsSn H sc names m ∧ names ≠ [] ∧ names.length ≤ 64 ∧ (∀ x ∈ names, gX x) ∧ 0 < m ∧ m ≤ 10 ∧
  ∀ H' v p, But (· = fd) H H' → IsFd H' fd cl → IsPr H' p v → cnt p ≤ 16 → dep0 p < 5 → okF m p → Q v H'
section
variable {P : Program} {w : World} {K : PySem.W.Frag} {mg : Str → Option Value} {base : Heap} {k : Nat}
theorem ok_law_any (F : Fd K mg "_law_any" s_law_any ["_law_feed_here", "_law_scene_here"]) (D : Cal P w K mg base k "_law_draw" ["_law_feed_here", "_law_many"] spDraw) (Pg : Cal P w K mg base k "_law_program" psProg (spProg 6)) : Cal P w K mg base (k + 1) "_law_any" ["_law_feed_here", "_law_scene_here"] spAny := by
  refine F.ok sc_law_any (fun vs H Q ⟨_, _, _, _, _, h, _⟩ => by rw [h]; rfl) fun f cdv A outer s0 H vs Q E hr h => ?_
  obtain ⟨fd, cl, sc, names, m, rfl, hF, hS, n0, n1, nx, m0, m1, q⟩ := h
  refine ⟨_, pss_cons (ps_set (i := 2) sc_law_any.nd rfl (.inl rfl) (pe_ix ix_list (pe_lst (pa_cons (pe_lst pa_nil) (pa_cons (pe_lst pa_nil) (pa_cons (pe_lst (pa_cons pe_str pa_nil)) (pa_cons (pe_lst (pa_cons pe_str pa_nil)) (pa_cons (pe_lst (pa_cons pe_str (pa_cons pe_str pa_nil))) pa_nil)))))) (pe_cal D hr rfl (pa_cons (pv 0) (pa_cons pe_int pa_nil))) (fun _ _ => rfl)))
    (pss_one (ps_ret (pe_ix ix_tup (pe_cal Pg hr rfl (pa_cons (pv 0) (pa_cons (pv 1) (pa_cons pe_int (pa_cons (pe_op op_add pe_int (pe_cal D hr rfl (pa_cons (pv 0) (pa_cons pe_int pa_nil)))) (pa_cons (pv 2) pa_nil)))))) pe_int (fun _ _ => rfl)))), ?_⟩
  refine ⟨Nat.zero_le _, fun a1 n1' => ?_⟩
  have s1 := same_upd (o := .lst (kV' [])) n1'
  have h1 : upd H a1 (.lst (kV' [])) a1 = some (.lst (kV' [])) := upd_same
  refine ⟨Nat.zero_le _, fun a2 n2' => ?_⟩
  have s2 := same_upd (o := .lst (kV' [])) n2'
  have h2 : upd (upd H a1 (.lst (kV' []))) a2 (.lst (kV' [])) a2 = some (.lst (kV' [])) := upd_same
  refine ⟨by show 1 ≤ sizeLine; decide, fun a3 n3' => ?_⟩
  have s3 := same_upd (o := .lst (kV' [.out])) n3'
  have h3 : upd (upd (upd H a1 (.lst (kV' []))) a2 (.lst (kV' []))) a3 (.lst (kV' [.out])) a3 = some (.lst (kV' [.out])) := upd_same
  refine ⟨by show 1 ≤ sizeLine; decide, fun a4 n4' => ?_⟩
  have s4 := same_upd (o := .lst (kV' [.retry])) n4'
  have h4 : upd (upd (upd (upd H a1 (.lst (kV' []))) a2 (.lst (kV' []))) a3 (.lst (kV' [.out]))) a4 (.lst (kV' [.retry])) a4 = some (.lst (kV' [.retry])) := upd_same
  refine ⟨by show 2 ≤ sizeLine; decide, fun a5 n5' => ?_⟩
  have s5 := same_upd (o := .lst (kV' [.out, .retry])) n5'
  have h5 : upd (upd (upd (upd (upd H a1 (.lst (kV' []))) a2 (.lst (kV' []))) a3 (.lst (kV' [.out]))) a4 (.lst (kV' [.retry]))) a5 (.lst (kV' [.out, .retry])) a5 = some (.lst (kV' [.out, .retry])) := upd_same
  refine ⟨by show 5 ≤ sizeLine; decide, fun a6 n6' => ?_⟩
  have s6 := same_upd (o := .lst [.ref a1, .ref a2, .ref a3, .ref a4, .ref a5]) n6'
  have g1 : (upd (upd (upd (upd (upd (upd H a1 (.lst (kV' []))) a2 (.lst (kV' []))) a3 (.lst (kV' [.out]))) a4 (.lst (kV' [.retry]))) a5 (.lst (kV' [.out, .retry]))) a6 (.lst [.ref a1, .ref a2, .ref a3, .ref a4, .ref a5])) a1 = some (.lst (kV' [])) := s6 _ _ (s5 _ _ (s4 _ _ (s3 _ _ (s2 _ _ h1))))
  have g2 : (upd (upd (upd (upd (upd (upd H a1 (.lst (kV' []))) a2 (.lst (kV' []))) a3 (.lst (kV' [.out]))) a4 (.lst (kV' [.retry]))) a5 (.lst (kV' [.out, .retry]))) a6 (.lst [.ref a1, .ref a2, .ref a3, .ref a4, .ref a5])) a2 = some (.lst (kV' [])) := s6 _ _ (s5 _ _ (s4 _ _ (s3 _ _ h2)))
  have g3 : (upd (upd (upd (upd (upd (upd H a1 (.lst (kV' []))) a2 (.lst (kV' []))) a3 (.lst (kV' [.out]))) a4 (.lst (kV' [.retry]))) a5 (.lst (kV' [.out, .retry]))) a6 (.lst [.ref a1, .ref a2, .ref a3, .ref a4, .ref a5])) a3 = some (.lst (kV' [.out])) := s6 _ _ (s5 _ _ (s4 _ _ h3))
  have g4 : (upd (upd (upd (upd (upd (upd H a1 (.lst (kV' []))) a2 (.lst (kV' []))) a3 (.lst (kV' [.out]))) a4 (.lst (kV' [.retry]))) a5 (.lst (kV' [.out, .retry]))) a6 (.lst [.ref a1, .ref a2, .ref a3, .ref a4, .ref a5])) a4 = some (.lst (kV' [.retry])) := s6 _ _ (s5 _ _ h4)
  have g5 : (upd (upd (upd (upd (upd (upd H a1 (.lst (kV' []))) a2 (.lst (kV' []))) a3 (.lst (kV' [.out]))) a4 (.lst (kV' [.retry]))) a5 (.lst (kV' [.out, .retry]))) a6 (.lst [.ref a1, .ref a2, .ref a3, .ref a4, .ref a5])) a5 = some (.lst (kV' [.out, .retry])) := s6 _ _ h5
  have g6 : upd (upd (upd (upd (upd (upd H a1 (.lst (kV' []))) a2 (.lst (kV' []))) a3 (.lst (kV' [.out]))) a4 (.lst (kV' [.retry]))) a5 (.lst (kV' [.out, .retry]))) a6 (.lst [.ref a1, .ref a2, .ref a3, .ref a4, .ref a5]) a6 = some (.lst [.ref a1, .ref a2, .ref a3, .ref a4, .ref a5]) := upd_same
  have s06 : Same H (upd (upd (upd (upd (upd (upd H a1 (.lst (kV' []))) a2 (.lst (kV' []))) a3 (.lst (kV' [.out]))) a4 (.lst (kV' [.retry]))) a5 (.lst (kV' [.out, .retry]))) a6 (.lst [.ref a1, .ref a2, .ref a3, .ref a4, .ref a5])) := Same.trans s1 (Same.trans s2 (Same.trans s3 (Same.trans s4 (Same.trans s5 s6))))
  show tCal spDraw (tCons (tVar 0) (tCons (tC (V.int 5)) tNil)) [some (.ref fd), some (.ref sc), none] (upd (upd (upd (upd (upd (upd H a1 (.lst (kV' []))) a2 (.lst (kV' []))) a3 (.lst (kV' [.out]))) a4 (.lst (kV' [.retry]))) a5 (.lst (kV' [.out, .retry]))) a6 (.lst [.ref a1, .ref a2, .ref a3, .ref a4, .ref a5])) _
  generalize upd (upd (upd (upd (upd (upd H a1 (.lst (kV' []))) a2 (.lst (kV' []))) a3 (.lst (kV' [.out]))) a4 (.lst (kV' [.retry]))) a5 (.lst (kV' [.out, .retry]))) a6 (.lst [.ref a1, .ref a2, .ref a3, .ref a4, .ref a5]) = H6 at g1 g2 g3 g4 g5 g6 s06
  clear h1 h2 h3 h4 h5 s1 s2 s3 s4 s5 s6
  have f6 := hF.same s06
  refine ⟨_, rfl, fd, cl, 5, rfl, f6, by decide, by decide, fun H7 r7 b7 f7 r70 r71 => ?_⟩
  have b07 := (Same.but s06).trans b7
  obtain ⟨ml, mw, hat, hml, hmo, hmz⟩ : ∃ (ml : Addr) (mw : List Kw), atI [V.ref a1, .ref a2, .ref a3, .ref a4, .ref a5] r7 = some (.ref ml) ∧ H7 ml = some (.lst (kV' mw)) ∧ (∀ k ∈ mw, k = .out ∨ k = .retry) ∧ mw.length ≤ 2 := by
    have : r7 = 0 ∨ r7 = 1 ∨ r7 = 2 ∨ r7 = 3 ∨ r7 = 4 := by omega
    rcases this with rfl | rfl | rfl | rfl | rfl
    · exact ⟨a1, [], rfl, b7 _ _ g1 (f6.ne_lst g1), by decide, by decide⟩
    · exact ⟨a2, [], rfl, b7 _ _ g2 (f6.ne_lst g2), by decide, by decide⟩
    · exact ⟨a3, [.out], rfl, b7 _ _ g3 (f6.ne_lst g3), by decide, by decide⟩
    · exact ⟨a4, [.retry], rfl, b7 _ _ g4 (f6.ne_lst g4), by decide, by decide⟩
    · exact ⟨a5, [.out, .retry], rfl, b7 _ _ g5 (f6.ne_lst g5), by decide, by decide⟩
  refine ⟨a6, _, r7, .ref ml, rfl, rfl, SqL.of (b7 _ _ g6 (f6.ne_lst g6)), hat, ?_⟩
  have hS7 := (hS.same s06).but f6 b7
  refine ⟨_, rfl, _, rfl, _, rfl, fd, cl, 5, rfl, f7, by decide, by decide, fun H8 r8 b8 f8 r80 r81 => ?_⟩
  obtain ⟨j, rfl, hj⟩ := nat_of r80 r81
  refine ⟨_, _, rfl, rfl, _, rfl, fd, cl, sc, ml, names, m, mw, 16, 1 + j, ?_, ⟨f8, hS7.but f7 b8, b8 _ _ hml (f7.ne_lst hml), n0, n1, nx, m0, m1, hmo, by omega, by omega⟩, by decide, by omega, fun H9 t v p rm' b9 f9 ht hv hc hd ho => ?_⟩
  · show [V.ref fd, V.ref sc, V.int 16, V.int ((1 : Int) + (j : Int)), V.ref ml] = _
    rw [show (1 : Int) + (j : Int) = ((1 + j : Nat) : Int) by omega]
    rfl
  exact ⟨t, _, 0, v, rfl, rfl, SqT.of ht, atI_nat (j := 0) rfl, q H9 v p (b07.trans (b8.trans b9)) f9 hv (by omega) (by omega) ho⟩
theorem ok_law_scene (F : Fd K mg "_law_scene" s_law_scene ["_law_feed_here"]) (D : Cal P w K mg base k "_law_draw" ["_law_feed_here", "_law_many"] spDraw) (Nm : Cal P w K mg base k "_law_names" ["_law_feed_here", "_law_many"] spNames) (Nu : Cal P w K mg base k "_law_number" ["_law_feed_here"] spNum) (gr : mg "range" = none) (gt : mg "tuple" = none) : Cal P w K mg base (k + 1) "_law_scene" ["_law_feed_here"] (spScene K) := by
  refine F.ok sc_law_scene (fun vs H Q ⟨_, _, h, _⟩ => by rw [h]; rfl) fun f cdv A outer s0 H vs Q E hr h => ?_
  obtain ⟨fd, cl, rfl, hF, q⟩ := h
  refine ⟨_, pss_cons (ps_set (i := 1) sc_law_scene.nd rfl (.inl rfl) (pe_cal Nm hr rfl (pa_cons (pv 0) (pa_cons (pe_op op_add pe_int (pe_cal D hr rfl (pa_cons (pv 0) (pa_cons pe_int pa_nil)))) pa_nil))))
    (pss_cons (ps_set (i := 2) sc_law_scene.nd rfl (.inl rfl) (pe_op op_add pe_int (pe_cal D hr rfl (pa_cons (pv 0) (pa_cons pe_int pa_nil)))))
    (pss_cons (ps_set (i := 3) sc_law_scene.nd rfl (.inl rfl) (pe_lst pa_nil))
    (pss_cons (ps_for PassesOwn.never rfl (pi_range1 rfl gr (pa_cons (pv 2) pa_nil)) (pg_name (i := 4) sc_law_scene.nd rfl (.inl rfl))
      (pss_cons (ps_set (i := 5) sc_law_scene.nd rfl (.inl rfl) (pe_op op_mul (pe_op op_add (pe_op op_pow pe_int pe_int) (pv 4)) (pe_ix ix_list (pe_lst (pa_cons pe_int (pa_cons (pe_un un_neg pe_int) pa_nil))) (pe_cal D hr rfl (pa_cons (pv 0) (pa_cons pe_int pa_nil))) (fun _ _ => rfl))))
      (pss_one (ps_expr (pe_bm PySem.F.plainAttrs_list PySem.F.slot_list_append PySem.F.type_list_append mt_append (pv 3) (pa_cons (pe_ix ix_list (pe_lst (pa_cons (pe_cal Nu hr rfl (pa_cons (pv 0) pa_nil)) (pa_cons (pv 5) pa_nil))) (pe_op op_fdiv (pe_cal D hr rfl (pa_cons (pv 0) (pa_cons pe_int pa_nil))) pe_int) (fun _ _ => rfl)) pa_nil))))))
    (pss_cons (ps_setLc (i := 7) (own := [("_law_name", 6)]) (g := gName 6) (tt := tTest (tOp rEq (tCal spDraw (tCons (tVar 0) (tCons (tC (.int 3)) tNil))) (tC (.int 0)))) (te := tTup (tCons (tVar 6) (tCons (tCal spNum (tCons (tVar 0) tNil)) tNil))) (by rfl) sc_law_scene.nd rfl rfl (sw_true rfl rfl rfl (by decide +kernel))
        (pi_list (pv 1)) (blkOk_by (N := N_law_scene) (sc := defScope s_law_scene) (by decide +kernel))
        (fun _ _ _ _ _ => pg_name (i := 6) sc_law_scene.nd rfl (.inl rfl)) (fun _ _ _ _ _ => pts_one (pt_cmpR op_eq (pe_cal D hr rfl (pa_cons (pv 0) (pa_cons pe_int pa_nil))) pe_int (nomark _))) (fun _ _ _ _ _ => pe_tup (pa_cons (pv 6) (pa_cons (pe_cal Nu hr rfl (pa_cons (pv 0) pa_nil)) pa_nil))))
    (pss_one (ps_ret (pe_disp (pps_cons pe_str (pv 1) (pps_cons pe_str (pv 2) (pps_cons pe_str (pe_callTy call_tuple_of (by rfl) gt (by decide +kernel) (pa_cons (pv 3) pa_nil)) (pps_cons pe_str (pe_callTy call_tupleF (by rfl) gt (by decide +kernel) (pa_cons (pv 7) pa_nil)) pps_nil)))) rfl rfl (by simp) (by simp)))))))), ?_⟩
  refine ⟨_, rfl, _, rfl, fd, cl, 4, rfl, hF, by decide, by decide, fun H1 r1 b1 f1 r10 r11 => ?_⟩
  obtain ⟨j1, rfl, hj1⟩ := nat_of r10 r11
  refine ⟨_, _, rfl, rfl, fd, cl, 1 + j1, ?_, f1, by omega, by omega, fun H2 nl names b2 f2 nnl hnl n0 n1 nx => ?_⟩
  · show [V.ref fd, V.int ((1 : Int) + (j1 : Int))] = _
    rw [show (1 : Int) + (j1 : Int) = ((1 + j1 : Nat) : Int) by omega]
  refine ⟨_, rfl, fd, cl, 8, rfl, f2, by decide, by decide, fun H3 r3 b3 f3 r30 r31 => ?_⟩
  obtain ⟨j3, rfl, hj3⟩ := nat_of r30 r31
  have hnl3 := b3 _ _ hnl (f2.ne_lst hnl)
  have b03 := b1.trans (b2.trans b3)
  refine ⟨_, _, rfl, rfl, ?_⟩
  refine ⟨Nat.zero_le _, fun r nr => ?_⟩
  have em : V.int ((1 : Int) + (j3 : Int)) = V.int ((1 + j3 : Nat) : Int) := by first | rfl | (congr 1; omega)
  show tSeq _ _ _ [some (.ref fd), some (.ref nl), some (.int ((1 : Int) + (j3 : Int))), some (.ref r), none, none, none, none] (upd H3 r (.lst []))
  rw [em]
  have hm8 : 1 + j3 ≤ 8 := by omega
  have hm1 : 1 ≤ 1 + j3 := by omega
  generalize 1 + j3 = m at hm8 hm1
  have sr := same_upd (o := .lst []) nr
  have hr0 : upd H3 r (.lst []) r = some (.lst []) := upd_same
  have rf : r ≠ fd := f3.none nr
  have rc : r ≠ cl := f3.none2 nr
  have rn : r ≠ nl := fun z => by rw [z, hnl3] at nr; cases nr
  have f4 := f3.same sr
  have hnl4 := sr _ _ hnl3
  generalize upd H3 r (.lst []) = H4 at sr hr0 f4 hnl4
  -- what may change: the feed, the cells
  refine ⟨_, rfl, (m : Int), rfl, by omega, by omega, for_it (walk_rng (n := (m : Int).toNat)) (fun i σ H' => ∃ (y4 y5 : Option V) (cs : List Int), σ = [some (.ref fd), some (.ref nl), some (.int (m : Int)), some (.ref r), y4, y5, none, none] ∧ But (· = fd) H3 H' ∧ IsFd H' fd cl ∧ H' r = some (.lst (cs.map V.int)) ∧ cs.length = i ∧ (∀ x ∈ cs, x.natAbs ≤ 10 ^ 59 + 100))
    ⟨none, none, [], rfl, Same.but sr, f4, hr0, rfl, fun x hx => by simp at hx⟩ (fun _ _ _ _ _ => trivial) (fun i x σ H5 H6 hi ⟨y4, y5, cs, e1, b5, f5, hr5, hcl, hcb⟩ hY => ?_) (fun σ H' ⟨y4, y5, cs, e1, b5, f5, hr5, hcl, hcb⟩ => ?_)⟩
  · obtain ⟨e2, hx⟩ := hY
    subst e1 e2 hx
    have hi8 : i < 8 := by omega
    refine ⟨_, _, rfl, rfl, ⟨by decide, by decide, by decide⟩, _, rfl, _, _, rfl, rfl, _, rfl, by show 2 ≤ sizeLine; decide, fun p np => ?_⟩
    have sp := same_upd (o := .lst [.int 1, .int (-1)]) np
    have hp : upd H6 p (.lst [.int 1, .int (-1)]) p = some (.lst [.int 1, .int (-1)]) := upd_same
    have f6 := f5.same sp
    have hr6 := sp _ _ hr5
    generalize upd H6 p (.lst [.int 1, .int (-1)]) = H7 at sp hp f6 hr6
    refine ⟨_, rfl, fd, cl, 2, rfl, f6, by decide, by decide, fun H8 r8 b8 f8 r80 r81 => ?_⟩
    have hr8 := b8 _ _ hr6 rf
    obtain ⟨sg, hsg, hs1⟩ : ∃ sg : Int, atI [V.int 1, V.int (-1)] r8 = some (.int sg) ∧ (sg = 1 ∨ sg = -1) := by
      have : r8 = 0 ∨ r8 = 1 := by omega
      rcases this with rfl | rfl
      · exact ⟨1, rfl, .inl rfl⟩
      · exact ⟨-1, rfl, .inr rfl⟩
    refine ⟨p, _, r8, .int sg, rfl, rfl, SqL.of (b8 _ _ hp (f6.ne_lst hp)), hsg, _, _, rfl, rfl, .inr (by rcases hs1 with rfl | rfl <;> decide), ?_⟩
    have hfar : ((((10 : Int) ^ (59 : Int).toNat) + (i : Int)) * sg).natAbs ≤ 10 ^ 59 + 100 := by
      have : ((10 : Int) ^ (59 : Int).toNat) = 100000000000000000000000000000000000000000000000000000000000 := by decide
      rw [this]
      have h2 : (10 : Nat) ^ 59 = 100000000000000000000000000000000000000000000000000000000000 := by decide
      rw [h2]
      rcases hs1 with rfl | rfl <;> omega
    refine ⟨.ref r, rfl, .inl ⟨rfl, _, SqL.of hr8⟩, _, rfl, fd, cl, rfl, f8, fun H9 x9 b9 f9 hx9 => ⟨_, rfl, by show 2 ≤ sizeLine; decide, fun q2 nq2 => ?_⟩⟩
    have hr9 := b9 _ _ hr8 rf
    have sq := same_upd (o := .lst [.int x9, .int ((((10 : Int) ^ (59 : Int).toNat) + (i : Int)) * sg)]) nq2
    have hq2 : upd H9 q2 (.lst [.int x9, .int ((((10 : Int) ^ (59 : Int).toNat) + (i : Int)) * sg)]) q2 = some (.lst [.int x9, .int ((((10 : Int) ^ (59 : Int).toNat) + (i : Int)) * sg)]) := upd_same
    have f10 := f9.same sq
    have hr10 := sq _ _ hr9
    refine ⟨_, rfl, fd, cl, 9, rfl, f10, by decide, by decide, fun H11 r11 b11 f11 r110 r111 => ?_⟩
    have hr11 := b11 _ _ hr10 rf
    obtain ⟨y, hy, hyb⟩ : ∃ y : Int, atI [V.int x9, V.int ((((10 : Int) ^ (59 : Int).toNat) + (i : Int)) * sg)] (r11 / 8) = some (.int y) ∧ y.natAbs ≤ 10 ^ 59 + 100 := by
      have : r11 / 8 = 0 ∨ r11 / 8 = 1 := by omega
      rcases this with e | e
      · exact ⟨x9, by rw [e]; rfl, Nat.le_trans hx9 (by decide)⟩
      · exact ⟨_, by rw [e]; rfl, hfar⟩
    refine ⟨_, _, rfl, rfl, ⟨by decide, by decide⟩, q2, _, _, .int y, rfl, rfl, SqL.of (b11 _ _ hq2 (f10.ne_lst hq2)), hy, ?_⟩
    refine ⟨r, _, _, rfl, rfl, hr11, by rw [List.length_map, hcl, sizeLine_eq]; omega, ?_⟩
    refine ⟨_, _, cs ++ [y], rfl, but_new (b5.trans ((Same.but sp).trans (b8.trans (b9.trans ((Same.but sq).trans b11))))) nr, f11.upd rf rc, by rw [upd_same, List.map_append]; rfl, by rw [List.length_append, hcl]; rfl, fun z hz => ?_⟩
    rcases List.mem_append.mp hz with h | h
    · exact hcb z h
    · rw [List.mem_singleton.mp h]; exact hyb
  · subst e1
    have hcm : cs.length = m := by omega
    have hnl5 := b5 _ _ hnl3 (f3.ne_lst hnl3)
    refine ⟨.ref nl, rfl, nl, rfl, ⟨_, SqL.of hnl5⟩, fun D nD => ?_⟩
    have Df : D ≠ fd := f5.none nD
    have Dc : D ≠ cl := f5.none2 nD
    have hlen : (names.map V.str).length = names.length := List.length_map ..
    refine lc_it (walk_list (xs := names.map V.str)) (fun j H9 => But (· = fd) H' H9 ∧ IsFd H9 fd cl ∧ ∃ (ps : List Addr) (kvs : List (Str × Int)), H9 D = some (.lst (ps.map V.ref)) ∧ Paired (fun p (kv : Str × Int) => H9 p = some (.tup [.str kv.1, .int kv.2])) ps kvs ∧ kvs.length ≤ j ∧ (∀ p ∈ kvs, gX p.1 ∧ p.2.natAbs ≤ 10 ^ 6)) ⟨Same.but (same_upd nD), f5.same (same_upd nD), [], [], upd_same, .nil, Nat.le_refl _, fun p hp => by simp at hp⟩
      (fun j H9 _ ⟨b9, _, _⟩ => SqL.of (b9 _ _ hnl5 (f5.ne_lst hnl5))) (fun j x H9 H10 hj ⟨b9, f9, ps, kvs, hD, hpk, hkl, hkx⟩ hY => ?_) (fun H9 ⟨b9, f9, ps, kvs, hD, hpk, hkl, hkx⟩ => ?_)
    · obtain ⟨e10, hx10⟩ := hY
      subst e10
      rw [List.getElem?_map] at hx10
      obtain ⟨nm, hnm, rfl⟩ := Option.map_eq_some_iff.mp hx10
      have hgm : gX nm := nx _ (List.mem_of_getElem? hnm)
      have plen : ps.length = kvs.length := Paired.length hpk
      refine ⟨rfl, _, rfl, fd, cl, 3, rfl, f9, by decide, by decide, fun H11 r11 b11 f11 r110 r111 => ?_⟩
      have hD11 := b11 _ _ hD Df
      have hpk11 : Paired (fun p (kv : Str × Int) => H11 p = some (.tup [.str kv.1, .int kv.2])) ps kvs := paired_imp (fun a kv z => b11 _ _ z (f9.ne_tup z)) hpk
      refine ⟨rfl, _, rfl, ?_⟩
      refine ite2 (fun c => ?_) (fun c => ?_)
      · refine ⟨_, rfl, _, rfl, fd, cl, rfl, f11, fun H12 x12 b12 f12 hx12 => ⟨by show 2 ≤ sizeLine; decide, fun t nt => ?_⟩⟩
        have st := same_upd (o := .tup [.str nm, .int x12]) nt
        have ht : upd H12 t (.tup [.str nm, .int x12]) t = some (.tup [.str nm, .int x12]) := upd_same
        have f13 := f12.same st
        have hD13 := st _ _ (b12 _ _ hD11 Df)
        have hpk13 : Paired (fun p (kv : Str × Int) => upd H12 t (.tup [.str nm, .int x12]) p = some (.tup [.str kv.1, .int kv.2])) ps kvs := paired_imp (fun a kv z => st _ _ (b12 _ _ z (f11.ne_tup z))) hpk11
        have b13 := b9.trans (b11.trans (b12.trans (Same.but st)))
        generalize upd H12 t (.tup [.str nm, .int x12]) = H13 at st ht f13 hD13 hpk13 b13
        refine ⟨ps.map V.ref, hD13, ?_, but_new b13 nD, f13.upd Df Dc, ps ++ [t], kvs ++ [(nm, x12)], by rw [upd_same, List.map_append]; rfl, ?_, ?_, fun p hp => ?_⟩
        · rw [List.length_map, plen, sizeLine_eq]
          rw [hlen] at hj
          omega
        · have up : ∀ a xs, H13 a = some (.tup xs) → upd H13 D (.lst (ps.map V.ref ++ [.ref t])) a = some (.tup xs) := fun a xs z => by
            rw [upd_ne (fun e => by rw [e, hD13] at z; cases z)]
            exact z
          have h1 : Paired (fun p (kv : Str × Int) => upd H13 D (.lst (ps.map V.ref ++ [.ref t])) p = some (.tup [.str kv.1, .int kv.2])) ps kvs := paired_imp (fun a kv z => up _ _ z) hpk13
          have h2 : upd H13 D (.lst (ps.map V.ref ++ [.ref t])) t = some (.tup [.str nm, .int x12]) := up _ _ ht
          exact paired_snoc (a := t) (b := (nm, x12)) (F := fun p (kv : Str × Int) => upd H13 D (.lst (ps.map V.ref ++ [.ref t])) p = some (.tup [.str kv.1, .int kv.2])) h2 h1
        · rw [List.length_append]
          show kvs.length + 1 ≤ j + 1
          omega
        · rcases List.mem_append.mp hp with h | h
          · exact hkx p h
          · rw [List.mem_singleton.mp h]
            exact ⟨hgm, hx12⟩
      · exact ⟨b9.trans b11, f11, ps, kvs, hD11, hpk11, by omega, hkx⟩
    · have hnl9 := b9 _ _ hnl5 (f5.ne_lst hnl5)
      have hr9 := b9 _ _ hr5 rf
      intro sc nsc
      have s0 := same_upd (o := .dK []) nsc
      have hsc : upd H9 sc (.dK []) sc = some (.dK []) := upd_same
      have f10 := f9.same s0
      have hnl10 := s0 _ _ hnl9
      have hr10 := s0 _ _ hr9
      have hD10 := s0 _ _ hD
      generalize upd H9 sc (.dK []) = H10 at s0 hsc f10 hnl10 hr10 hD10
      refine ⟨_, rfl, _, rfl, _, rfl, r, _, rfl, .inl ⟨SqL.of hr10, fun ct nct => ?_⟩⟩
      have s1 := same_upd (o := .tup (cs.map V.int)) nct
      have hct : upd H10 ct (.tup (cs.map V.int)) ct = some (.tup (cs.map V.int)) := upd_same
      have hsc1 := s1 _ _ hsc
      have hnl11 := s1 _ _ hnl10
      have hD11 := s1 _ _ hD10
      generalize upd H10 ct (.tup (cs.map V.int)) = H11 at s1 hct hsc1 hnl11 hD11
      refine ⟨_, rfl, D, _, rfl, SqL.of hD11, fun st o nst od => ?_⟩
      have s2 := same_upd (o := .frz o (.tup (ps.map V.ref))) nst
      have hst : upd H11 st (.frz o (.tup (ps.map V.ref))) st = some (.frz o (.tup (ps.map V.ref))) := upd_same
      have hsc2 := s2 _ _ hsc1
      have hnl12 := s2 _ _ hnl11
      have hct2 := s2 _ _ hct
      generalize upd H11 st (.frz o (.tup (ps.map V.ref))) = H12 at s2 hst hsc2 hnl12 hct2
      have s912 := Same.trans s0 (Same.trans s1 s2)
      refine ⟨hsc2, scT nl (m : Int) ct st, rfl, by show 4 ≤ 15; omega, ?_⟩
      have s913 : Same H9 (upd H12 sc (.dK (mergeK [] (scT nl (m : Int) ct st)))) := same_set s912 nsc
      have up : ∀ a oo, H12 a = some oo → a ≠ sc → upd H12 sc (.dK (mergeK [] (scT nl (m : Int) ct st))) a = some oo := fun a oo z hne => by rw [upd_ne hne]; exact z
      have hsc3 : upd H12 sc (.dK (mergeK [] (scT nl (m : Int) ct st))) sc = some (.dK (scT nl (m : Int) ct st)) := upd_same
      refine q _ sc ⟨names, m, cs, kvs⟩ (b03.trans (b5.trans (b9.trans (Same.but s913)))) (f9.same s913) ⟨nl, ct, st, ps, hsc3, up _ _ hnl12 (fun e => by rw [e, hsc2] at hnl12; cases hnl12), nnl, SqT.of (up _ _ hct2 (fun e => by rw [e, hsc2] at hct2; cases hct2)), .inl ⟨o, up _ _ hst (fun e => by rw [e, hsc2] at hst; cases hst), od⟩, paired_imp (fun a kv z => SqT.of (s913 _ _ z)) hpk⟩ ⟨n0, n1, nx, hm1, hm8, hcm, hcb, ?_, hkx⟩
      rw [hlen] at hkl
      exact Nat.le_trans hkl n1
end
end Pk
-- ## PkFix
set_option Elab.async false
set_option linter.all false
set_option maxRecDepth 100000
set_option maxHeartbeats 4000000
namespace Pk
open PySem PySem.Spec PyProof.Rows L2
abbrev N_law_fixed_ifs : List Str := ["_law_feed_here", "_law_program_here", "_law_found", "_law_step_now", "_law_part", "_law_parts", "_law_amount"]
theorem sc_law_fixed_ifs : FnScope N_law_fixed_ifs ["_law_feed_here", "_law_program_here"] (defScope s_law_fixed_ifs) := ⟨rfl, rfl, rfl, by decide +kernel, rfl, by decide +kernel, by decide +kernel⟩
def spFix (n : Nat) : SpN := fun vs H Q => ∃ (fd cl : Addr) (p : List Stp) (v : V) (m : Nat), vs = [.ref fd, v] ∧ IsFd H fd cl ∧ IsPr H p v ∧ dep0 p < n ∧ cnt p ≤ 1000 ∧ okF m p ∧
  ∀ H' v' p', But (· = fd) H H' → IsFd H' fd cl → IsPr H' p' v' → cnt p' = cnt p → dep0 p' = dep0 p → okF m p' → Q v' H'
/-- a step with other programs, another amount -/
def withA : Stp → Sm → List Stp → List Stp → Stp
  | .ite _ _ _, a, p, q => .ite a p q
  | .inner _ _, _, p, q => .inner p q
  | .either _ _, _, p, q => .either p q
  | s, _, _, _ => s
theorem cnt_withA {s : Stp} {p q p' q' : List Stp} {a : Sm} (h : parts s = [p, q]) (h1 : cnt p' = cnt p) (h2 : cnt q' = cnt q) : cntS (withA s a p' q') = cntS s := by
  cases s <;> simp [parts] at h
  all_goals
    obtain ⟨rfl, rfl⟩ := h
    simp only [withA, cntS, h1, h2]
theorem dep_withA {s : Stp} {p q p' q' : List Stp} {a : Sm} (h : parts s = [p, q]) (h1 : dep0 p' = dep0 p) (h2 : dep0 q' = dep0 q) : depS (withA s a p' q') = depS s := by
  cases s <;> simp [parts] at h
  all_goals
    obtain ⟨rfl, rfl⟩ := h
    simp only [withA, depS, h1, h2]
theorem all_withA {m : Nat} {s : Stp} {p q p' q' : List Stp} {a : Sm} (h : parts s = [p, q]) (h1 : okF m p') (h2 : okF m q') (h3 : kw s = .ite → fA a) : allS (fS m) fA (withA s a p' q') := by
  cases s <;> simp [parts] at h
  · exact ⟨h3 rfl, h1, h2⟩
  · exact ⟨h1, h2⟩
  · exact ⟨h1, h2⟩
theorem okF_all {m : Nat} {p : List Stp} {i : Nat} {st : Stp} (h : okF m p) (e : p[i]? = some st) : allS (fS m) fA st := by
  induction p generalizing i with
  | nil => simp at e
  | cons x r ih =>
    cases i with
    | zero => cases e; exact h.1
    | succ i => exact ih h.2 (by simpa using e)
theorem okF_parts {m : Nat} {s : Stp} {p q : List Stp} (h : parts s = [p, q]) (ho : allS (fS m) fA s) : okF m p ∧ okF m q := by
  cases s <;> simp [parts] at h
  · obtain ⟨rfl, rfl⟩ := h; exact ⟨ho.2.1, ho.2.2⟩
  · obtain ⟨rfl, rfl⟩ := h; exact ⟨ho.1, ho.2⟩
  · obtain ⟨rfl, rfl⟩ := h; exact ⟨ho.1, ho.2⟩
theorem parts_cnt {s : Stp} {p q : List Stp} (h : parts s = [p, q]) : dep0 p < depS s ∧ dep0 q < depS s ∧ cnt p < cntS s ∧ cnt q < cntS s := by
  cases s <;> simp [parts] at h
  all_goals
    obtain ⟨rfl, rfl⟩ := h
    simp only [depS, cntS]
    omega
section
variable {P : Program} {w : World} {K : PySem.W.Frag} {mg : Str → Option Value} {base : Heap} {k : Nat}
theorem ok_law_fixed (F : Fd K mg "_law_fixed_ifs" s_law_fixed_ifs ["_law_feed_here", "_law_program_here"]) (D : Cal P w K mg base 1 "_law_draw" ["_law_feed_here", "_law_many"] spDraw) (gn : mg "len" = none) (gt : mg "tuple" = none) : ∀ n, Cal P w K mg base (n + 1) "_law_fixed_ifs" ["_law_feed_here", "_law_program_here"] (spFix n)
  | 0 => F.none fun vs H Q ⟨_, _, _, _, _, _, _, _, h, _⟩ => absurd h (Nat.not_lt_zero _)
  | n + 1 => by
    have C := ok_law_fixed F D gn gt n
    have D' := D.mono (show 1 ≤ n + 1 by omega)
    refine F.ok sc_law_fixed_ifs (fun vs H Q ⟨_, _, _, _, _, h, _⟩ => by rw [h]; rfl) fun f cdv A outer s0 H vs Q E hr h => ?_
    obtain ⟨fd, cl, p, v, m, rfl, hF, hp, hd, hc, ho, q⟩ := h
    refine ⟨_, pss_cons (ps_set (i := 2) sc_law_fixed_ifs.nd rfl (.inl rfl) (pe_lst pa_nil))
      (pss_cons (ps_for PassesOwn.never rfl (pi_tup (pv 1)) (pg_name (i := 3) sc_law_fixed_ifs.nd rfl (.inl rfl))
        (pss_cons (ps_if (pt_cmpR op_in_seq (pe_ix ix_tup (pv 3) pe_int (fun _ _ => rfl)) (pe_tup (pa_cons pe_str (pa_cons pe_str (pa_cons pe_str pa_nil)))) rfl)
          (pss_cons (ps_set (i := 5) sc_law_fixed_ifs.nd rfl (.inl rfl) (pe_callTy call_tuple_of (by rfl) gt (by decide +kernel) (pa_cons (pe_lc (own := [("_law_part", 4)]) (g := gName 4) (tt := tYes) (te := tCal (spFix n) (tCons (tVar 0) (tCons (tVar 4) tNil))) rfl sc_law_fixed_ifs.nd (pi_tup (pe_slice sl_tup (pv 3) (po_some (pe_op op_sub (pe_callB call_len_seq (by rfl) gn (by decide +kernel) (pa_cons (pv 3) pa_nil)) pe_int)) po_none)) (blkOk_by (N := N_law_fixed_ifs) (sc := defScope s_law_fixed_ifs) (by decide +kernel))
              (fun _ _ _ _ _ => pg_name (i := 4) sc_law_fixed_ifs.nd rfl (.inl rfl)) (fun _ _ _ _ _ => pts_nil) (fun _ _ _ _ _ => pe_cal C hr rfl (pa_cons (pv 0) (pa_cons (pv 4) pa_nil)))) pa_nil)))
          (pss_cons (ps_set (i := 6) sc_law_fixed_ifs.nd rfl (.inl rfl) (pe_ifExp (pt_cmpR op_eq (pe_cal D' hr rfl (pa_cons (pv 0) (pa_cons pe_int pa_nil))) pe_int (nomark _)) (pe_tup (pa_cons pe_str (pa_cons (pe_op op_sub (pe_cal D' hr rfl (pa_cons (pv 0) (pa_cons pe_int pa_nil))) pe_int) pa_nil))) (pe_ix ix_tup (pv 3) pe_int (fun _ _ => rfl))))
          (pss_one (ps_set (i := 3) sc_law_fixed_ifs.nd rfl (.inl rfl) (pe_op op_catA (pe_op op_catA (pe_slice sl_tup (pv 3) po_none (po_some pe_int)) (pe_ifExp (pt_cmpR op_eq (pe_ix ix_tup (pv 3) pe_int (fun _ _ => rfl)) pe_str (nomark _)) (pe_tup (pa_cons (pv 6) pa_nil)) (pe_tup pa_nil))) (pv 5)))))) pss_nil)
        (pss_one (ps_expr (pe_bm PySem.F.plainAttrs_list PySem.F.slot_list_append PySem.F.type_list_append mt_append (pv 2) (pa_cons (pv 3) pa_nil))))))
      (pss_one (ps_ret (pe_callTy call_tuple_of (by rfl) gt (by decide +kernel) (pa_cons (pv 2) pa_nil))))), ?_⟩
    obtain ⟨t, ws, rfl, ht, hs⟩ := hp
    refine ⟨Nat.zero_le _, fun r nr => ?_⟩
    have sr := same_upd (o := .lst []) nr
    have hr0 : upd H r (.lst []) r = some (.lst []) := upd_same
    have rf : r ≠ fd := hF.none nr
    have rc : r ≠ cl := hF.none2 nr
    have f0 := hF.same sr
    generalize upd H r (.lst []) = H0 at sr hr0 f0
    refine ⟨.ref t, rfl, t, rfl, ⟨ws, SqT.of (sr _ _ ht)⟩, for_it (walk_tup (xs := ws)) (fun i σ H' => ∃ (y3 y4 y5 y6 : Option V) (us : List V) (g : List Stp), σ = [some (.ref fd), some (.ref t), some (.ref r), y3, y4, y5, y6] ∧ But (· = fd) H H' ∧ IsFd H' fd cl ∧ H' r = some (.lst us) ∧ IsSts H' g us ∧ cnt g = cnt (p.take i) ∧ dep0 g = dep0 (p.take i) ∧ okF m g)
      ⟨none, none, none, none, [], [], rfl, Same.but sr, f0, hr0, rfl, rfl, rfl, trivial⟩ (fun i σ H' _ ⟨_, _, _, _, _, _, _, b, _⟩ => SqT.of (b _ _ ht (hF.ne_tup ht))) (fun i x σ H1 H2 hi ⟨y3, y4, y5, y6, us, g, e1, b2, f2, hr2, hg, hgc, hgd, hgo⟩ hY => ?_) (fun σ H' ⟨y3, y4, y5, y6, us, g, e1, b2, f2, hr2, hg, hgc, hgd, hgo⟩ => ?_)⟩
    · obtain ⟨e2, hx⟩ := hY
      subst e1 e2
      obtain ⟨st, hst, hI⟩ := hs.at hx
      have hI := hI.mono (hF.tle b2)
      obtain ⟨hd1, hc1⟩ := at_step hst
      have hos := okF_all ho hst
      obtain ⟨ts, as, rfl, hts, hla⟩ := hI.open
      have hlen : us.length ≤ 1000 := by
        rw [hg.length]
        have := len_le_cnt g
        have := cnt_take p i
        omega
      have htk : cnt (p.take (i + 1)) = cnt (p.take i) + cntS st ∧ dep0 (p.take (i + 1)) = max (dep0 (p.take i)) (depS st) := by
        rw [take_next hst, cnt_append, dep0_append]
        simp [cnt, dep0]
      -- the step is laid
      have lay : ∀ (H3 : Hp) (vs : V) (s' : Stp) (y5 y6 : Option V), But (· = fd) H H3 → But (· = fd) H2 H3 → IsFd H3 fd cl → H3 r = some (.lst us) → IsSt H3 s' vs → cntS s' = cntS st → depS s' = depS st → allS (fS m) fA s' → tDrop (tBM K "list" rAppend (tVar 2) (tCons (tVar 3) tNil)) { nx := fun σ H' => ∃ (y3 y4 y5 y6 : Option V) (us : List V) (g : List Stp), σ = [some (.ref fd), some (.ref t), some (.ref r), y3, y4, y5, y6] ∧ But (· = fd) H H' ∧ IsFd H' fd cl ∧ H' r = some (.lst us) ∧ IsSts H' g us ∧ cnt g = cnt (p.take (i + 1)) ∧ dep0 g = dep0 (p.take (i + 1)) ∧ okF m g, rt := Q, bk := fun _ _ => False, ct := fun _ _ => False } [some (.ref fd), some (.ref t), some (.ref r), some vs, y4, y5, y6] H3 := fun H3 vs s' y5 y6 b3 b23 f3 hr3 hs' c1 c2 c3 => by
        have up : ∀ a xs, H3 a = some (.tup xs) → upd H3 r (.lst (us ++ [vs])) a = some (.tup xs) := fun a xs z => by
          rw [upd_ne (fun e => by rw [e, hr3] at z; cases z)]
          exact z
        refine ⟨.ref r, rfl, .inl ⟨rfl, _, SqL.of hr3⟩, _, rfl, r, us, vs, rfl, rfl, hr3, by rw [sizeLine_eq]; omega, ?_⟩
        refine ⟨_, _, _, _, us ++ [vs], g ++ [s'], rfl, but_new b3 nr, f3.upd rf rc, upd_same, (hg.mono (TLe.trans (f2.tle b23) up)).append ⟨vs, [], rfl, hs'.mono up, rfl⟩, ?_, ?_, (allP_append _ _ _ _).mpr ⟨hgo, c3, trivial⟩⟩
        · rw [cnt_append, htk.1, hgc]
          simp [cnt, c1]
        · rw [dep0_append, htk.2, hgd]
          simp [dep0, c2]
      refine ⟨_, rfl, ts, _, 0, .str (wrd st), rfl, rfl, SqT.of hts, atI_nat (j := 0) rfl, by show 3 ≤ sizeLine; decide, fun d nd => ⟨d, _, rfl, .inr (SqT.of upd_same), rfl, rfl, _, rfl, ?_⟩⟩
      have sd := same_upd (o := .tup [.str "if", .str "inner", .str "either"]) nd
      have i3 : inV (.str (wrd st)) [.str "if", .str "inner", .str "either"] = isC st := inV_kw (kw st) [.ite, .inner, .either]
      rw [show (if false = true then !inV (.str (wrd st)) [.str "if", .str "inner", .str "either"] else inV (.str (wrd st)) [.str "if", .str "inner", .str "either"]) = isC st from i3]
      have hr3 := sd _ _ hr2
      have hts3 := sd _ _ hts
      have hI3 := hI.mono (Same.tle sd)
      have f3 := f2.same sd
      have b3 := b2.trans (Same.but sd)
      have b23 : But (· = fd) H2 (upd H2 d (.tup [.str "if", .str "inner", .str "either"])) := Same.but sd
      generalize upd H2 d (.tup [.str "if", .str "inner", .str "either"]) = H3 at sd hr3 hts3 hI3 f3 b3 b23
      refine ite2 (fun c => ?_) (fun c => ?_)
      · obtain ⟨p1, p2, t1, t2, vs1, vs2, bs, rfl, h1, h2, hpt, hbl⟩ := comp_open hI3 hts3 c
        obtain ⟨k1, k2, k3, k4⟩ := parts_cnt hpt
        obtain ⟨o1, o2⟩ := okF_parts hpt hos
        have htl : (V.str (wrd st) :: (bs ++ [V.ref t1, V.ref t2])).length = bs.length + 3 := by simp
        refine ⟨_, rfl, _, rfl, ts, _, rfl, .inr (SqT.of hts3), _, _, rfl, rfl, ((bs.length + 1 : Nat) : Int), (by
          show V.int (((V.str (wrd st) :: (bs ++ [V.ref t1, V.ref t2])).length : Int) - 2) = _
          rw [htl]
          congr 1
          omega), ?_⟩
        dsimp only [tNoPart]
        refine slice_from (k := bs.length + 1) hts3 (by omega) (by rw [htl]; omega) fun e H4 s4 h4 => ?_
        rw [show (V.str (wrd st) :: (bs ++ [V.ref t1, V.ref t2])).drop (bs.length + 1) = [V.ref t1, V.ref t2] by simp] at h4
        have f4 := f3.same s4
        refine ⟨e, rfl, ⟨_, SqT.of h4⟩, fun Dl nD => ?_⟩
        have Df : Dl ≠ fd := f4.none nD
        have Dc : Dl ≠ cl := f4.none2 nD
        refine lc_it (walk_tup (xs := [V.ref t1, V.ref t2])) (fun j H' => But (· = fd) H4 H' ∧ IsFd H' fd cl ∧ ∃ (vs : List V) (gs : List (List Stp)), H' Dl = some (.lst vs) ∧ IsPrs H' gs vs ∧ (∀ x ∈ gs, okF m x) ∧ gs.map cnt = ([p1, p2].take j).map cnt ∧ gs.map dep0 = ([p1, p2].take j).map dep0) ⟨Same.but (same_upd nD), f4.same (same_upd nD), [], [], upd_same, rfl, fun x hx => by simp at hx, rfl, rfl⟩
          (fun j H' _ ⟨b, _⟩ => SqT.of (b _ _ h4 (f4.ne_tup h4))) (fun j x H5 H6 hj ⟨b5, f5, vs, gs, hD, hV, hgo5, hgc5, hgd5⟩ hY => ?_) (fun H5 ⟨b5, f5, vs, gs, hD, hV, hgo5, hgc5, hgd5⟩ => ?_)
        · obtain ⟨e5, hx5⟩ := hY
          subst e5
          have tl36 : TLe H3 H6 := TLe.trans (Same.tle s4) (f4.tle b5)
          obtain ⟨pr, hpr, hpv, hpo, hpd, hpc⟩ : ∃ pr, [p1, p2][j]? = some pr ∧ IsPr H6 pr x ∧ okF m pr ∧ dep0 pr < depS st ∧ cnt pr < cntS st := by
            have hj2 : j < 2 := hj
            rcases (show j = 0 ∨ j = 1 by omega) with e0 | e0
            · subst e0
              cases hx5
              exact ⟨p1, rfl, (isPr_mk h1).mono tl36, o1, k1, k3⟩
            · subst e0
              cases hx5
              exact ⟨p2, rfl, (isPr_mk h2).mono tl36, o2, k2, k4⟩
          refine ⟨rfl, tyes ⟨_, rfl, _, rfl, fd, cl, pr, x, m, rfl, f5, hpv, by omega, by omega, hpo, fun H7 v' p' b7 f7 hv' c1 c2 c3 => ⟨vs, b7 _ _ hD Df, ?_, but_new (b5.trans b7) nD, f7.upd Df Dc, vs ++ [v'], gs ++ [p'], upd_same, ?_, ?_, ?_, ?_⟩⟩⟩
          · have hl : gs.length = ([p1, p2].take j).length := by
              have := congrArg List.length hgc5
              simpa using this
            rw [hV.length, hl]
            exact Nat.lt_of_le_of_lt (show _ ≤ 2 by rw [List.length_take]; exact Nat.min_le_right _ _) (by decide)
          · have up : TLe H7 (upd H7 Dl (.lst (vs ++ [v']))) := fun a xs z => by
              rw [upd_ne (fun e => by rw [e, b7 _ _ hD Df] at z; cases z)]
              exact z
            have snoc : ∀ {Hx : Hp} {gs : List (List Stp)} {vs : List V}, IsPrs Hx gs vs → IsPr Hx p' v' → IsPrs Hx (gs ++ [p']) (vs ++ [v']) := by
              intro Hx gs
              induction gs with
              | nil => intro vs h z; rw [show vs = [] from h]; exact ⟨v', [], rfl, z, rfl⟩
              | cons a b ih =>
                rintro vs ⟨v1, vr, rfl, z1, z2⟩ z
                exact ⟨v1, vr ++ [v'], rfl, z1, ih z2 z⟩
            exact snoc (hV.mono (TLe.trans (f5.tle b7) up)) (hv'.mono up)
          · intro z hz
            rcases List.mem_append.mp hz with h | h
            · exact hgo5 z h
            · rw [List.mem_singleton.mp h]; exact c3
          · rw [take_next hpr, List.map_append, List.map_append, hgc5]
            simp [c1]
          · rw [take_next hpr, List.map_append, List.map_append, hgd5]
            simp [c2]
        · -- the new programs
          obtain ⟨p1', p2', rfl, c11_, c12, d11, d12⟩ : ∃ p1' p2', gs = [p1', p2'] ∧ cnt p1' = cnt p1 ∧ cnt p2' = cnt p2 ∧ dep0 p1' = dep0 p1 ∧ dep0 p2' = dep0 p2 := by
            cases gs with
            | nil => simp at hgc5
            | cons a b =>
              cases b with
              | nil => simp at hgc5
              | cons a2 b2 =>
                cases b2 with
                | nil =>
                  simp at hgc5 hgd5
                  exact ⟨a, a2, rfl, hgc5.1, hgc5.2, hgd5.1, hgd5.2⟩
                | cons _ _ => simp at hgc5
          obtain ⟨v1, vr, rfl, hp1, v2, vr2, rfl, hp2, hnil⟩ := hV
          obtain rfl : vr2 = [] := hnil
          have go1 := hgo5 p1' (by simp)
          have go2 := hgo5 p2' (by simp)
          have b35 := (Same.but s4).trans b5
          have b25 := b23.trans b35
          have b05 := b3.trans b35
          have hr5 := b35 _ _ hr3 rf
          have hts5 := b35 _ _ hts3 (f3.ne_tup hts3)
          have hI5 := hI3.mono (f3.tle b35)
          refine ⟨Dl, _, rfl, .inl ⟨SqL.of hD, fun u nu => ?_⟩⟩
          have su := same_upd (o := .tup [v1, v2]) nu
          have hu : upd H5 u (.tup [v1, v2]) u = some (.tup [v1, v2]) := upd_same
          have f6 := f5.same su
          have hr6 := su _ _ hr5
          have hts6 := su _ _ hts5
          have hI6 := hI5.mono (Same.tle su)
          have hp1' := hp1.mono (Same.tle su)
          have hp2' := hp2.mono (Same.tle su)
          have b26 := b25.trans (Same.but su)
          have b06 := b05.trans (Same.but su)
          show tSeq _ _ _ [some (.ref fd), some (.ref t), some (.ref r), some (.ref ts), y4, some (.ref u), y6] (upd H5 u (.tup [v1, v2]))
          generalize upd H5 u (.tup [v1, v2]) = H6 at su hu f6 hr6 hts6 hI6 hp1' hp2' b26 b06
          -- behind the amount
          refine (fun (am : ∀ (H7 : Hp) (va : V) (a : Sm), But (· = fd) H6 H7 → IsFd H7 fd cl → (kw st = .ite → IsSm H7 a va ∧ fA a) → (?T : L2.St → Hp → Prop) [some (.ref fd), some (.ref t), some (.ref r), some (.ref ts), y4, some (.ref u), some va] H7) => ?main) ?pf
          case main =>
            refine ⟨_, rfl, fd, cl, 2, rfl, f6, by decide, by decide, fun H7 r7 b7 f7 r70 r71 => ⟨rfl, _, rfl, ?_⟩⟩
            refine ite2 (fun _ => ?_) (fun _ => ?_)
            · refine ⟨_, rfl, fd, cl, 3, rfl, f7, by decide, by decide, fun H8 r8 b8 f8 r80 r81 => ⟨_, _, rfl, rfl, by show 2 ≤ sizeLine; decide, fun t8 nt8 => ?_⟩⟩
              have s8 := same_upd (o := .tup [.str "num", .int (r8 - 1)]) nt8
              dsimp only [gName]
              refine am _ (.ref t8) (.num (r8 - 1)) (b7.trans (b8.trans (Same.but s8))) (f8.same s8) fun _ => ⟨⟨t8, rfl, upd_same⟩, ⟨?_, by show 0 ≤ 3; omega⟩, trivial⟩
              show (r8 - 1).natAbs ≤ 10 ^ 60
              exact Nat.le_trans (show (r8 - 1).natAbs ≤ 10 by omega) (by decide)
            · have hts7 := b7 _ _ hts6 (f6.ne_tup hts6)
              have hI7 := hI6.mono (f6.tle b7)
              obtain ⟨z, hz, a, hza⟩ : ∃ z, (V.str (wrd st) :: (bs ++ [V.ref t1, V.ref t2]))[1]? = some z ∧ ∃ a, (kw st = .ite → IsSm H7 a z ∧ fA a) := by
                cases st with
                | ite a q1 q2 =>
                  obtain ⟨va, u1, u2, w1, w2, ⟨t', e1, e2⟩, ha, _, _⟩ := hI7
                  cases e1
                  have := tup_tail hts7 e2
                  exact ⟨va, by show (bs ++ [V.ref t1, V.ref t2])[0]? = _; rw [this]; rfl, a, fun _ => ⟨ha, hos.1⟩⟩
                | inner q1 q2 =>
                  refine ⟨(bs ++ [V.ref t1, V.ref t2])[0]'(by simp), ?_, .num 0, fun h => by cases h⟩
                  show (bs ++ [V.ref t1, V.ref t2])[0]? = _
                  exact List.getElem?_eq_getElem _
                | either q1 q2 =>
                  refine ⟨(bs ++ [V.ref t1, V.ref t2])[0]'(by simp), ?_, .num 0, fun h => by cases h⟩
                  show (bs ++ [V.ref t1, V.ref t2])[0]? = _
                  exact List.getElem?_eq_getElem _
                | _ => simp [parts] at hpt
              refine ⟨_, rfl, ts, _, 1, z, rfl, rfl, SqT.of hts7, atI_nat (j := 1) hz, ?_⟩
              dsimp only [gName]
              exact am H7 z a b7 f7 hza
          case pf =>
            intro H7 va a b7 f7 ha
            have hts7 := b7 _ _ hts6 (f6.ne_tup hts6)
            have hr7 := b7 _ _ hr6 rf
            have hu7 := b7 _ _ hu (f6.ne_tup hu)
            have hI7 := hI6.mono (f6.tle b7)
            refine ⟨.ref ts, rfl, 1, rfl, ?_⟩
            show rSlT K (.ref ts) none (some ((1 : Nat) : Int)) H7 (fun x H1 => tIf (tTest (tOp rEq (tOp (rIxT K) (tVar 3) (tC (.int 0))) (tC (.str "if")))) (tTup (tCons (tVar 6) tNil)) (tTup tNil) [some (.ref fd), some (.ref t), some (.ref r), some (.ref ts), y4, some (.ref u), some va] H1 fun y H2 => rCatA K x y H2 _)
            refine slice_to (k := 1) hts7 (by rw [htl]; omega) fun c8 H8 s8 h8 => ?_
            rw [show (V.str (wrd st) :: (bs ++ [V.ref t1, V.ref t2])).take 1 = [V.str (wrd st)] from rfl] at h8
            have hts8 := s8 _ _ hts7
            -- any piece between
            have mid : ∀ (H9 : Hp) (e9 : Addr) (xs : List V), Same H8 H9 → H9 e9 = some (.tup xs) → xs.length ≤ 1 → (∀ (H11 : Hp) (c11 : Addr), Same H9 H11 → H11 c11 = some (.tup (V.str (wrd st) :: (xs ++ [v1, v2]))) → IsSt H11 (withA st a p1' p2') (.ref c11)) → rCatA K (.ref c8) (.ref e9) H9 fun x H1 => tVar 5 [some (.ref fd), some (.ref t), some (.ref r), some (.ref ts), y4, some (.ref u), some va] H1 fun y H2 => rCatA K x y H2 fun z Hz => tDrop (tBM K "list" rAppend (tVar 2) (tCons (tVar 3) tNil)) { nx := fun σ H' => ∃ (y3 y4 y5 y6 : Option V) (us : List V) (g : List Stp), σ = [some (.ref fd), some (.ref t), some (.ref r), y3, y4, y5, y6] ∧ But (· = fd) H H' ∧ IsFd H' fd cl ∧ H' r = some (.lst us) ∧ IsSts H' g us ∧ cnt g = cnt (p.take (i + 1)) ∧ dep0 g = dep0 (p.take (i + 1)) ∧ okF m g, rt := Q, bk := fun _ _ => False, ct := fun _ _ => False } [some (.ref fd), some (.ref t), some (.ref r), some z, y4, some (.ref u), some va] Hz := fun H9 e9 xs s9 he hxl hmk => by
              refine cat_any (s9 _ _ h8) he (by show 1 + xs.length ≤ 10000; omega) fun c10 H10 s10 h10 => ?_
              refine ⟨_, rfl, ?_⟩
              refine cat_any h10 (s10 _ _ (s9 _ _ (s8 _ _ hu7))) (by rw [List.length_append]; show 1 + xs.length + 2 ≤ 10000; omega) fun c11 H11 s11 h11 => ?_
              have s711 := Same.trans s8 (Same.trans s9 (Same.trans s10 s11))
              refine lay H11 (.ref c11) (withA st a p1' p2') _ _ (b06.trans (b7.trans (Same.but s711))) (b26.trans (b7.trans (Same.but s711))) (f7.same s711) (s711 _ _ hr7) (hmk H11 c11 (Same.trans s10 s11) (by rw [h11]; simp)) (cnt_withA hpt c11_ c12) (dep_withA hpt d11 d12) (all_withA hpt go1 go2 fun h => (ha h).2)
            have hq1 : ∀ {Hx : Hp}, Same H8 Hx → IsPr Hx p1' v1 ∧ IsPr Hx p2' v2 := fun sx => ⟨hp1'.mono (TLe.trans (f6.tle b7) (Same.tle (Same.trans s8 sx))), hp2'.mono (TLe.trans (f6.tle b7) (Same.tle (Same.trans s8 sx)))⟩
            refine ⟨_, rfl, ts, _, 0, .str (wrd st), rfl, rfl, SqT.of hts8, atI_nat (j := 0) rfl, rfl, _, rfl, ?_⟩
            rw [show (Str.ofString "if") = kwN .ite from rfl, dec_kw]
            refine ite2 (fun c4 => ?_) (fun c4 => ?_)
            · have hk := of_decide_eq_true c4
              refine ⟨_, rfl, by show 1 ≤ sizeLine; decide, fun e9 ne9 => ?_⟩
              refine mid _ e9 [va] (same_upd ne9) upd_same (by simp) fun H11 c11 s11 h11 => ?_
              have s811 := Same.trans (same_upd (o := .tup [va]) ne9) s11
              obtain ⟨⟨w1, ws1, rfl, hw1, hws1⟩, ⟨w2, ws2, rfl, hw2, hws2⟩⟩ := hq1 s811
              cases st with
              | ite a0 q1 q2 => exact ⟨va, w1, w2, ws1, ws2, ⟨c11, rfl, h11⟩, (ha rfl).1.mono (Same.tle (Same.trans s8 s811)), ⟨hw1, hws1⟩, ⟨hw2, hws2⟩⟩
              | _ => cases hk
            · refine ⟨Nat.zero_le _, fun e9 ne9 => ?_⟩
              refine mid _ e9 [] (same_upd ne9) upd_same (by simp) fun H11 c11 s11 h11 => ?_
              have s811 := Same.trans (same_upd (o := .tup []) ne9) s11
              obtain ⟨⟨w1, ws1, rfl, hw1, hws1⟩, ⟨w2, ws2, rfl, hw2, hws2⟩⟩ := hq1 s811
              cases st with
              | ite a0 q1 q2 => exact absurd rfl c4
              | inner q1 q2 => exact ⟨w1, w2, ws1, ws2, ⟨c11, rfl, h11⟩, ⟨hw1, hws1⟩, ⟨hw2, hws2⟩⟩
              | either q1 q2 => exact ⟨w1, w2, ws1, ws2, ⟨c11, rfl, h11⟩, ⟨hw1, hws1⟩, ⟨hw2, hws2⟩⟩
              | _ => simp [parts] at hpt
      · exact lay H3 (.ref ts) st y5 y6 b3 b23 f3 hr3 hI3 rfl rfl hos
    · subst e1
      rw [List.take_of_length_le (by rw [hs.length]; exact Nat.le_refl _)] at hgc hgd
      refine ⟨_, rfl, r, us, rfl, .inl ⟨SqL.of hr2, fun u nu => ?_⟩⟩
      have su := same_upd (o := .tup us) nu
      exact q _ _ g (b2.trans (Same.but su)) (f2.same su) ⟨u, us, rfl, upd_same, hg.mono (Same.tle su)⟩ hgc hgd hgo
end
end Pk
-- ## PkGuard
set_option Elab.async false
set_option linter.all false
set_option maxRecDepth 100000
set_option maxHeartbeats 4000000
namespace Pk
open PySem PySem.Spec PyProof.Rows L2
/-! ### defs that are called while no repr runs -/
structure FnG (P : Program) (w : World) (K : PySem.W.Frag) (mg : Str → Option Value) (base : Heap) (k : Nat) (f : Addr) (fd : FuncData) (ps : List Str) (sp : SpN) : Prop where
  len : ∀ vs H Q, sp vs H Q → vs.length = ps.length
  run : ∀ (A : Around) (outer : List Env) (s : Shared) (H : Hp) (args : Args) (us : List Value) (vs : List V) (Q : VK) (E : XK), A.guards = some [] → Room k A → Env0 P w K mg base A outer s H → BindsTo s fd args (ps.zip us) → Vals vs us → sp vs H Q →
    codeAny (model P w) A (.call (.ref f) args) (CR CX0 outer P w H s Q E) s
section
variable {P : Program} {w : World} {K : PySem.W.Frag} {mg : Str → Option Value} {base : Heap} {k : Nat}
theorem fnG_of {N ps : List Str} {x qual : Str} {params : Arguments} {body : List Stmt} {scope : Scope} {dvs : List V} {kws : List (Str × V)} {f : Addr} {fd : FuncData} {sp : SpN} (F : FunD K x qual params body scope dvs kws f fd) (S : FnScope N ps scope) (len : ∀ vs H Q, sp vs H Q → vs.length = ps.length)
    (hbody : ∀ (cdv : Value) (A : Around) (outer : List Env) (s : Shared) (H : Hp) (vs : List V) (Q : VK) (E : XK), (A.deeper (envOfC qual scope s.heap.objs.size f cdv)).guards = some [] → Room k (A.deeper (envOfC qual scope s.heap.objs.size f cdv)) → sp vs H Q →
      ∃ t, PSs (cxOf CX0 P w K mg base N qual scope f cdv A outer s H E).nox body t ∧ t { nx := fun _ H' => Q .non H', rt := Q } (start N vs) H) : FnG P w K mg base (k + 1) f fd ps sp := by
  obtain ⟨oc, od, dV, kV, doc, pm, an, cdv, ct, osl, rfl, lk, hcd, _, _⟩ := F.ex
  refine ⟨len, fun A outer s H args us vs Q E hg hr e0 hb r hsp => ?_⟩
  have hx := hbody cdv A outer s H vs Q E hg (hr.deeper _) hsp
  · have hl := len _ _ _ hsp
    have KX : K.In s.heap := e0.mod.kin.keeps fun b o e => (e0.bs b o e).1
    have lim : s.heap.NoLimit := e0.mod.nolimit.keeps fun b o e => (e0.bs b o e).1
    have hkind : ∀ y ∈ ps.zip us, scope.names.lookup y.1 = some .local ∨ (scope.names.lookup y.1 = some .cell ∧ ((cellsFrom (s.heap.objs.size + 1) scope.names []).lookup y.1).isSome = true) := fun ⟨n, v⟩ hy => by
      rcases S.par n (List.of_mem_zip hy).1 with q | q
      · exact .inl q
      · exact .inr ⟨q, PySem.W.cellsFrom_some _ _ _ (.inl q)⟩
    refine codeAny_call_function hr.depth (KX _ _ lk) rfl S.co S.gen rfl (PySem.W.codeRec_of KX hcd) (hb _ _ _ _ ?_)
    refine wpAny_newFunctionEnv_cells S.kind hkind fun env he s1 z => ?_
    subst he
    refine ⟨lim.keeps z.toInCall.keep, codeAny_func ?_⟩
    obtain ⟨t, ht, hq⟩ := hx
    have I : Inv (cxOf CX0 P w K mg base N qual scope f cdv A outer s H E) [] (start N vs) H s1 := inv_start S hr.hd e0 hl r z
    refine wpAny_mono (ht.nox.run [] s1 (start N vs) H _ I hq) (fun fl s' hs => ?_) fun e s' hs => hs
    cases fl with
    | ret u =>
      obtain ⟨v, σ', H', J, rv, q⟩ := hs
      exact ⟨v, H', J.os, J.bare, J.base, J.hok, rv, q⟩
    | next =>
      obtain ⟨σ', H', J, q⟩ := hs
      exact ⟨V.non, H', J.os, J.bare, J.base, J.hok, rfl, q⟩
    | brk => exact hs.elim fun _ h => h.elim fun _ h => False.elim h.2
    | cont => exact hs.elim fun _ h => h.elim fun _ h => False.elim h.2
end
section
variable {X : Cx} {k : Nat} {f : Addr} {fd : FuncData} {ps : List Str} {sp : SpN} {x : Str} {p pos : Pos} {e : Expr} {es : List Expr} {t : TA}
theorem pe_calG (F : FnG X.prog X.w X.K X.mg X.base k f fd ps sp) (hgd : X.A.guards = some []) (hr : Room k X.A) (hg : Gl X x) (hm : X.mg x = some (.ref f)) (hk : PySem.W.keepIn X.K (.ref f) = true) (hb : Binds X.K fd ps []) (ha : PA X (e :: es) t)
    (hdb : (x == ("__debug__" : Str)) = false := by decide) (he : starEach (e :: es) X.env = (false, eval e X.env) :: starEach es X.env := by rfl) (hpl : (backTo pos (starEach es X.env)).any (·.1) = false := by rfl) :
    PE X (.Call (.Name x p) (e :: es) [] pos) (tCal sp t) := by
  refine ⟨fun pins s σ H Q I h => ?_⟩
  refine wpAny_Call_Name_kw (ld_glob I hg hm ?_ hdb)
  refine PySem.W.callWith_K (h₀ := X.base) I.ok.mod.kin hk (thn (ha.run pos pins s σ H _ I h) fun us s1 ⟨vs, H1, I1, r, q⟩ => ⟨I1.kIn, ?_⟩) he hpl
  have hl : (us ++ ([] : List Value)).length = ps.length := by rw [List.append_nil, ← r.length]; exact F.len _ _ _ q
  have hbd := hb s1 us I1.kIn hl
  rw [List.append_nil] at hbd
  refine wpAny_call (codeAny_mono (F.run X.A X.stack s1 H1 ⟨us, []⟩ us vs Q E0 hgd hr I1.env0 hbd r q) fun r s' hq => ?_)
  cases r with
  | error e => exact pass0 pins σ H1 s1 e s' I1 hq
  | ok fl =>
    cases fl with
    | ret u => exact I1.after hq
    | next => exact False.elim hq
    | brk => exact False.elim hq
    | cont => exact False.elim hq
end
/-- xs + zs: the new list is not the module list -/
def rCatN : R2 := fun x y H Q => ∃ l b xs zs, x = .ref l ∧ y = .ref b ∧ H l = some (.lst xs) ∧ H b = some (.lst zs) ∧ xs.length + zs.length ≤ sizeLine ∧ ∀ p, H p = none → p ≠ sysModules → Q (.ref p) (upd H p (.lst (xs ++ zs)))
theorem op_catN {X : Cx} : OpR X (binaryOp .Add) rCatN := by
  intro pins s σ H x y v u Q I rx ry h
  obtain ⟨l, b, xs, zs, rfl, rfl, hH, hB, hz, q⟩ := h
  cases rx
  cases ry
  obtain ⟨_, its, n, r, hl, e⟩ := I.lstM hH
  obtain ⟨_, its2, n2, r2, hl2, e2⟩ := I.lstM hB
  refine PySem.P.add_list e e2 ?_ (by rw [List.size_toArray, List.size_toArray]; omega)
  rw [show its.toArray ++ its2.toArray = (its ++ its2).toArray by simp]
  exact ⟨.ref _, _, I.lnew (t' := s.toks) (r.append r2) (by rw [List.length_append]; omega), rfl, q _ I.fresh (Nat.ne_of_gt I.big)⟩
/-- the law's call, for such a def -/
theorem law_callG {P : Program} {w : World} {K : PySem.W.Frag} {mg mb : Str → Option Value} {k : Nat} {fa a : Addr} {fd : FuncData} {x : Str} {sp : SpN} {s₁ : Shared} {vs : List Value} {ns : List Int}
    (KX : K.In s₁.heap) (hns : s₁.heap.Ns mainGlobals mg) (hb : s₁.heap.Ns builtinsNs mb) (hbb : ∀ x : Str, x ≠ "__name__" → mb x = bootBuiltins x) (hlim : s₁.heap.NoLimit) (hg : s₁.gens = #[])
    (ha : s₁.heap.get? a = some { cls := .type "list", data := .seq vs.toArray }) (hi : IntsAre vs ns) (hl : ns.length ≤ sizeLine) (hr : Room k callerA)
    (F : ∀ base : Heap, K.In base → base.Ns mainGlobals mg → FnG P w K mg base k fa fd [x] sp) (hbind : ∀ (s : Shared) (u : Value), BindsTo s fd ⟨[u], []⟩ [(x, u)])
    (hsp : ∀ H : Hp, SqL K H a (ns.map V.int) → sp [.ref a] H (fun v _ => v = .bl true)) :
    codeAny (model P w) callerA (.call (.ref fa) ⟨[.ref a], []⟩) (fun r s' => r = .ok (.ret (.bool true)) ∧ OldK s₁.heap s'.heap ∧ s'.os = s₁.os ∧ AllBare s'.gens) s₁ := by
  have rv := vals_ints hi
  have lenV := hi.length
  have core : ∀ H : Hp, Only H → SqL K H a (ns.map V.int) → HOk P w H s₁.heap → (∀ b, H b ≠ none → b = a) → (H a ≠ none → K.lookup a = none) →
      codeAny (model P w) callerA (.call (.ref fa) ⟨[.ref a], []⟩) (fun r s' => r = .ok (.ret (.bool true)) ∧ OldK s₁.heap s'.heap ∧ s'.os = s₁.os ∧ AllBare s'.gens) s₁ := by
    intro H hO hS hok hA hK
    have at_a : ∀ {b : Addr} {u : HO}, H b = some u → b = a := fun {b u} q => hA b (by rw [q]; exact Option.some_ne_none u)
    have k_a : ∀ {u : HO}, H a = some u → K.lookup a = none := fun {u} q => hK (by rw [q]; exact Option.some_ne_none u)
    have noA : ∀ {b : Addr} {o : Obj} {es : Array DictEntry} {ep : Nat}, s₁.heap.get? b = some o → o.data = .dict es ep → H b = none := fun {b o es ep} e d => by
      cases q : H b with
      | none => rfl
      | some u =>
        obtain rfl := at_a q
        rw [ha] at e
        cases e
        cases (show Data.seq vs.toArray _ = Data.dict es ep from d)
    have nsK : ∀ {b : Addr} {m : Str → Option Value}, s₁.heap.Ns b m → (hidT s₁.heap H).Ns b m := fun {b m} ⟨o, es, ep, e, d, r⟩ => ⟨o, es, ep, hidT_get e (noA e d), d, r⟩
    have hKb : K.In (hidT s₁.heap H) := fun b o e => hidT_get (KX b o e) (by
      cases q : H b with
      | none => rfl
      | some u =>
        obtain rfl := at_a q
        rw [k_a q] at e
        cases e)
    have hM : Mod K mg (hidT s₁.heap H) := ⟨hKb, nsK hns, ⟨mb, nsK hb, hbb⟩, let ⟨mc, h1, h2⟩ := hlim; ⟨mc, nsK h1, h2⟩⟩
    have e0 : Env0 P w K mg (hidT s₁.heap H) callerA [] s₁ H := ⟨rfl, hM, fun b o e => of_hidT e, Nat.le_of_eq (hidT_size _ _), trivial, fun b hb => absurd (show b ∈ ([] : List Addr) from hb) (by simp), hok, .of_eq hg⟩
    refine codeAny_mono ((F _ hKb (nsK hns)).run callerA [] s₁ H ⟨[.ref a], []⟩ [.ref a] [.ref a] _ E0 rfl hr e0 (hbind s₁ (.ref a)) (.cons rfl .nil) (hsp H hS)) fun r s' h => ?_
    cases r with
    | error e => exact (h : CX0 [] H s₁ E0 e s').elim
    | ok fl =>
      cases fl with
      | next => exact False.elim h
      | brk => exact False.elim h
      | cont => exact False.elim h
      | ret u =>
        obtain ⟨v, H', os, bare, un, hok', r', q⟩ := h
        obtain rfl : v = .bl true := q
        obtain rfl : u = Value.bool true := r'
        refine ⟨rfl, OldK.of_keep fun b o e => ?_, os, bare⟩
        cases q : H b with
        | none => exact un.keep b o e q (by intro z; exact absurd (show b ∈ ([] : List Addr) from z) (by simp)) (by simp)
        | some u =>
          rcases hO b with z | ⟨ob, xs, z⟩
          · rw [q] at z; cases z
          · have z2 := un.frzs b ob _ z
            obtain ⟨e1, _⟩ := hok b _ z
            obtain ⟨e2, _⟩ := hok' b _ z2
            rw [e] at e1
            cases e1
            exact e2
  cases hk : K.lookup a with
  | some o =>
    have e := KX a o hk
    rw [ha] at e
    cases e
    exact core (fun _ => none) (fun _ => .inl rfl) (.inr ⟨_, vs.toArray, _, hk, rfl, rfl, rfl, by rw [List.size_toArray, lenV]; exact hl, by simpa using rv⟩) (fun b u z => by cases (show (none : Option HO) = some u from z)) (fun b z => absurd rfl z) fun z => absurd rfl z
  | none =>
    have get : ∀ {b : Addr} {u : HO}, (if b = a then some (HO.frz { cls := .type "list", data := .seq vs.toArray } (.lst (ns.map V.int))) else none) = some u → b = a ∧ u = .frz { cls := .type "list", data := .seq vs.toArray } (.lst (ns.map V.int)) := fun {b u} z => by
      by_cases hb : b = a
      · rw [if_pos hb] at z
        exact ⟨hb, (Option.some.inj z).symm⟩
      · rw [if_neg hb] at z
        cases z
    refine core (fun b => if b = a then some (.frz { cls := .type "list", data := .seq vs.toArray } (.lst (ns.map V.int))) else none) (fun b => ?_) (.inl (.inr ⟨{ cls := .type "list", data := .seq vs.toArray }, if_pos rfl⟩)) (fun b u z => ?_) (fun b z => ?_) fun _ => hk
    · by_cases hb : b = a
      · exact .inr ⟨_, _, if_pos hb⟩
      · exact .inl (if_neg hb)
    · obtain ⟨rfl, rfl⟩ := get z
      exact ⟨ha, by rw [List.length_map]; exact hl, vs, _, rv, ha⟩
    · by_cases hb : b = a
      · exact hb
      · exact absurd (if_neg hb) z
/-- the end over a head by facts -/
theorem walk_ofG {l : PySem.W.OpenLaw} {n k : Nat} {q : Program} {loose : List Str} {XP : (Str → Option Value) → Heap → Prop} {YP : World → Heap → Prop} {d : DefRec} {x : Str}
    (hn : l.most = some n) (hn2 : n ≤ sizeLine) (hdf : d.params.defaults = []) (hr : Room k callerA)
    (F : ∀ (w : World) (mg : Str → Option Value) (fa : Addr) (h : Heap), YP w h → h.Ns mainGlobals mg → mg d.name = some (.ref fa) →
      ∃ (K : PySem.W.Frag) (fd : FuncData) (sp : SpN), K.In h ∧ (∀ (s : Shared) (u : Value), BindsTo s fd ⟨[u], []⟩ [(x, u)]) ∧
        (∀ (H : Hp) (a : Addr) (ns : List Int), ns.length ≤ n → SqL K H a (ns.map V.int) → sp [.ref a] H (fun v _ => v = .bl true)) ∧
        ∀ base : Heap, K.In base → base.Ns mainGlobals mg → FnG l.prog w K mg base k fa fd [x] sp) :
    PySem.W.WalkO q loose XP YP l.row.toRowW d [] (fun f vs => PySem.call f vs) := by
  refine Att.attach_call hn hdf fun w s₀ s₁ mg mb fa o pm cd doc a vs ns G Y ho hd hcd hmg hobj hints hlen hg => ?_
  obtain ⟨K, fd, sp, KX, hb, hsp, hF⟩ := F w mg fa _ Y G.T.g hmg
  exact law_callG KX G.T.g G.T.b G.T.builtins G.T.nolimit hg hobj hints (Nat.le_trans hlen hn2) hr hF hb fun H hS => hsp H a ns hlen hS
end Pk
-- ## PkSize
set_option Elab.async false
set_option linter.all false
set_option maxRecDepth 100000
set_option maxHeartbeats 4000000
namespace Pk
open PySem PySem.Spec PyProof.Rows L2
/-! ### how long a text repr makes -/
structure Sz (d : PyData) (n dp : Nat) : Prop where
  a : d.showable = true
  b : d.leavesShort 100 = true
  c : d.bulk ≤ n
  e : d.depth ≤ dp
structure SzA (ds : List PyData) (n dp : Nat) : Prop where
  a : PyData.showableAll ds = true
  b : PyData.leavesShortAll 100 ds = true
  c : PyData.bulkAll ds ≤ n
  e : PyData.depthAll ds ≤ dp
theorem Sz.mono {d : PyData} {n dp n' dp' : Nat} (h : Sz d n dp) (h1 : n ≤ n') (h2 : dp ≤ dp') : Sz d n' dp' := ⟨h.a, h.b, Nat.le_trans h.c h1, Nat.le_trans h.e h2⟩
theorem SzA.mono {d : List PyData} {n dp n' dp' : Nat} (h : SzA d n dp) (h1 : n ≤ n') (h2 : dp ≤ dp') : SzA d n' dp' := ⟨h.a, h.b, Nat.le_trans h.c h1, Nat.le_trans h.e h2⟩
theorem sz_nil : SzA [] 0 0 := ⟨rfl, rfl, Nat.le_refl _, Nat.le_refl _⟩
theorem sz_cons {d : PyData} {ds : List PyData} {n m dp : Nat} (h : Sz d n dp) (k : SzA ds m dp) : SzA (d :: ds) (n + 1 + m) dp :=
  ⟨by simp only [PyData.showableAll, h.a, k.a]; rfl, by simp only [PyData.leavesShortAll, h.b, k.b]; rfl, by simp only [PyData.bulkAll]; have := h.c; have := k.c; omega, by simp only [PyData.depthAll]; have := h.e; have := k.e; omega⟩
theorem sz_tup {ds : List PyData} {n dp : Nat} (h : SzA ds n dp) : Sz (.tuple ds) n (dp + 1) :=
  ⟨by simp only [PyData.showable]; exact h.a, by simp only [PyData.leavesShort]; exact h.b, by simp only [PyData.bulk]; exact h.c, by simp only [PyData.depth]; have := h.e; omega⟩
theorem sz_lst {ds : List PyData} {n dp : Nat} (h : SzA ds n dp) : Sz (.list ds) n (dp + 1) :=
  ⟨by simp only [PyData.showable]; exact h.a, by simp only [PyData.leavesShort]; exact h.b, by simp only [PyData.bulk]; exact h.c, by simp only [PyData.depth]; have := h.e; omega⟩
theorem sz_int {i : Int} (h : i.natAbs < 10 ^ 98) : Sz (.int i) 0 0 := by
  refine ⟨?_, ?_, Nat.le_refl _, Nat.le_refl _⟩
  · show decide (i.natAbs.log2 < 1920) = true
    refine decide_eq_true ?_
    by_cases h0 : i.natAbs = 0
    · rw [h0]; decide
    · exact (Nat.log2_lt h0).mpr (Nat.lt_of_lt_of_le h (by decide +kernel))
  · show decide ((PyData.shown (.int i)).length ≤ 100) = true
    refine decide_eq_true ?_
    have e := int_text_length_le10 (k := 98) (by decide) h
    show (Str.ofString (toString i)).length ≤ 100
    rw [PySem.ofString_length]
    omega
theorem sz_str {x : Str} (h : gX x) : Sz (.str x) 8 0 := ⟨rfl, h.2, h.1, Nat.le_refl _⟩
theorem gX_kw (k : Kw) : gX (kwN k) := by cases k <;> (unfold gX; decide +kernel)
theorem gX_ks (k : Ks) : gX (ksN k) := by cases k <;> (unfold gX; decide +kernel)
theorem gX_lw (l : Left) : gX (leftW l) := by cases l <;> (unfold gX; decide +kernel)
theorem Sz.fits {d : PyData} {n dp : Nat} (h : Sz d n dp) (hn : n ≤ 160000) : d.shown.length ≤ sizeLine := by
  have := PyData.shown_le_bulk 100 (by decide) d h.b
  have := h.c
  rw [sizeLine_eq]
  omega
/-! ### programs as data -/
def dSm : Sm → PyData
  | .num i => .tuple [.str "num", .int i]
  | .slot x => .tuple [.str "slot", .str x]
  | .bin o a b => .tuple [.str (opN o), dSm a, dSm b]
mutual
def dS : Stp → PyData
  | .read x c => .tuple [.str "read", .str x, .int c]
  | .write c a => .tuple [.str "write", .int c, dSm a]
  | .lt x a => .tuple [.str "let", .str x, dSm a]
  | .tell a => .tuple [.str "tell", dSm a]
  | .ite a p q => .tuple [.str "if", dSm a, .tuple (dP p), .tuple (dP q)]
  | .inner p q => .tuple [.str "inner", .tuple (dP p), .tuple (dP q)]
  | .out => .tuple [.str "out"]
  | .either p q => .tuple [.str "either", .tuple (dP p), .tuple (dP q)]
  | .retry => .tuple [.str "retry"]
def dP : List Stp → List PyData
  | [] => []
  | s :: r => dS s :: dP r
end
theorem dq_sm {K : PySem.W.Frag} {H : Hp} : ∀ {a : Sm} {v : V}, IsSm H a v → Dq K H v (dSm a)
  | .num i, _, ⟨t, e, h⟩ => by rw [e]; exact .tup (SqT.of h) (.cons (.str _) (.cons (.int _) .nil))
  | .slot x, _, ⟨t, e, h⟩ => by rw [e]; exact .tup (SqT.of h) (.cons (.str _) (.cons (.str _) .nil))
  | .bin o a b, _, ⟨va, vb, ⟨t, e, h⟩, ha, hb⟩ => by rw [e]; exact .tup (SqT.of h) (.cons (.str _) (.cons (dq_sm ha) (.cons (dq_sm hb) .nil)))
mutual
theorem dq_st {K : PySem.W.Frag} {H : Hp} : ∀ {s : Stp} {v : V}, IsSt H s v → Dq K H v (dS s)
  | .read x c, _, ⟨t, e, h⟩ => by rw [e]; exact .tup (SqT.of h) (.cons (.str _) (.cons (.str _) (.cons (.int _) .nil)))
  | .write c a, _, ⟨va, ⟨t, e, h⟩, ha⟩ => by rw [e]; exact .tup (SqT.of h) (.cons (.str _) (.cons (.int _) (.cons (dq_sm ha) .nil)))
  | .lt x a, _, ⟨va, ⟨t, e, h⟩, ha⟩ => by rw [e]; exact .tup (SqT.of h) (.cons (.str _) (.cons (.str _) (.cons (dq_sm ha) .nil)))
  | .tell a, _, ⟨va, ⟨t, e, h⟩, ha⟩ => by rw [e]; exact .tup (SqT.of h) (.cons (.str _) (.cons (dq_sm ha) .nil))
  | .ite a p q, _, ⟨va, t1, t2, vs1, vs2, ⟨t, e, h⟩, ha, ⟨h1, k1⟩, ⟨h2, k2⟩⟩ => by rw [e]; exact .tup (SqT.of h) (.cons (.str _) (.cons (dq_sm ha) (.cons (.tup (SqT.of h1) (dq_sts k1)) (.cons (.tup (SqT.of h2) (dq_sts k2)) .nil))))
  | .inner p q, _, ⟨t1, t2, vs1, vs2, ⟨t, e, h⟩, ⟨h1, k1⟩, ⟨h2, k2⟩⟩ => by rw [e]; exact .tup (SqT.of h) (.cons (.str _) (.cons (.tup (SqT.of h1) (dq_sts k1)) (.cons (.tup (SqT.of h2) (dq_sts k2)) .nil)))
  | .out, _, ⟨t, e, h⟩ => by rw [e]; exact .tup (SqT.of h) (.cons (.str _) .nil)
  | .either p q, _, ⟨t1, t2, vs1, vs2, ⟨t, e, h⟩, ⟨h1, k1⟩, ⟨h2, k2⟩⟩ => by rw [e]; exact .tup (SqT.of h) (.cons (.str _) (.cons (.tup (SqT.of h1) (dq_sts k1)) (.cons (.tup (SqT.of h2) (dq_sts k2)) .nil)))
  | .retry, _, ⟨t, e, h⟩ => by rw [e]; exact .tup (SqT.of h) (.cons (.str _) .nil)
theorem dq_sts {K : PySem.W.Frag} {H : Hp} : ∀ {p : List Stp} {vs : List V}, IsSts H p vs → DqAll K H vs (dP p)
  | [], _, h => by rw [show _ = [] from h]; exact .nil
  | s :: r, _, ⟨v, vr, h, a, b⟩ => by rw [h]; exact .cons (dq_st a) (dq_sts b)
end
theorem dq_pr {K : PySem.W.Frag} {H : Hp} {p : List Stp} {v : V} (h : IsPr H p v) : Dq K H v (.tuple (dP p)) := by
  obtain ⟨t, vs, rfl, h1, h2⟩ := h
  exact .tup (SqT.of h1) (dq_sts h2)
theorem big98 : (10 : Nat) ^ 60 < 10 ^ 98 := Nat.pow_lt_pow_right (by decide) (by decide)
theorem sz_sm : ∀ {a : Sm}, smB (10 ^ 60) a → smX a → Sz (dSm a) (26 * 2 ^ sdep a - 8) (sdep a + 1)
  | .num i, h, _ => (sz_tup (sz_cons (sz_str (gX_ks .num)) (sz_cons (sz_int (Nat.lt_of_le_of_lt h big98)) sz_nil))).mono (by show 10 ≤ 26 * 2 ^ 0 - 8; decide) (Nat.le_refl _)
  | .slot x, _, h => (sz_tup (sz_cons (sz_str (gX_ks .slot)) (sz_cons (sz_str h) sz_nil))).mono (by show 18 ≤ 26 * 2 ^ 0 - 8; decide) (Nat.le_refl _)
  | .bin o a b, h, k => by
    have ha := sz_sm h.1 k.1
    have hb := sz_sm h.2 k.2
    have pa : 2 ^ sdep a ≤ 2 ^ max (sdep a) (sdep b) := Nat.pow_le_pow_right (by omega) (by omega)
    have pb : 2 ^ sdep b ≤ 2 ^ max (sdep a) (sdep b) := Nat.pow_le_pow_right (by omega) (by omega)
    have p1 : 1 ≤ 2 ^ max (sdep a) (sdep b) := Nat.pow_pos (by omega)
    have e : 2 ^ sdep (.bin o a b) = 2 * 2 ^ max (sdep a) (sdep b) := by simp only [sdep, Nat.pow_add, Nat.pow_one]
    have ho : Sz (.str (opN o)) 5 0 := by
      have hg : gX (opN o) := by rw [opN_ks o a b]; exact gX_ks _
      refine ⟨rfl, hg.2, ?_, Nat.le_refl _⟩
      cases o <;> decide +kernel
    have m1 : Sz (dSm a) (26 * 2 ^ max (sdep a) (sdep b) - 8) (max (sdep a) (sdep b) + 1) := ha.mono (by omega) (by omega)
    have m2 : Sz (dSm b) (26 * 2 ^ max (sdep a) (sdep b) - 8) (max (sdep a) (sdep b) + 1) := hb.mono (by omega) (by omega)
    refine (sz_tup (sz_cons (ho.mono (Nat.le_refl _) (Nat.zero_le _)) (sz_cons m1 (sz_cons m2 (sz_nil.mono (Nat.le_refl _) (Nat.zero_le _)))))).mono ?_ ?_
    · rw [e]
      omega
    · simp only [sdep]
      omega
theorem sz_fA {a : Sm} (h : fA a) : Sz (dSm a) 200 4 := by
  refine (sz_sm h.1.1 h.2).mono ?_ (by have := h.1.2; omega)
  have : 2 ^ sdep a ≤ 2 ^ 3 := Nat.pow_le_pow_right (by omega) h.1.2
  omega
mutual
theorem sz_st {m : Nat} (hm : m ≤ 10) : ∀ {s : Stp}, allS (fS m) fA s → Sz (dS s) (230 * cntS s - 1) (2 * depS s + 5)
  | .read x c, h => by
    have hc : c < m := h.1
    exact (sz_tup (sz_cons (sz_str (gX_kw .read)) (sz_cons (sz_str h.2) (sz_cons (sz_int (show (c : Int).natAbs < 10 ^ 98 from Nat.lt_of_lt_of_le (show (c : Int).natAbs < 10 by omega) (by decide +kernel))) sz_nil)))).mono (by simp only [cntS]; omega) (by simp only [depS]; omega)
  | .write c a, h => by
    have hc : c < m := h.1.1
    exact (sz_tup (sz_cons ((sz_str (gX_kw .write)).mono (Nat.le_refl _) (Nat.zero_le 4)) (sz_cons ((sz_int (show (c : Int).natAbs < 10 ^ 98 from Nat.lt_of_lt_of_le (show (c : Int).natAbs < 10 by omega) (by decide +kernel))).mono (Nat.le_refl _) (Nat.zero_le 4)) (sz_cons (sz_fA ⟨h.1.2, h.2⟩) (sz_nil.mono (Nat.le_refl _) (Nat.zero_le _)))))).mono (by simp only [cntS]; omega) (by simp only [depS]; omega)
  | .lt x a, h => (sz_tup (sz_cons ((sz_str (gX_kw .lt)).mono (Nat.le_refl _) (Nat.zero_le 4)) (sz_cons ((sz_str h.2.1).mono (Nat.le_refl _) (Nat.zero_le 4)) (sz_cons (sz_fA ⟨h.1, h.2.2⟩) (sz_nil.mono (Nat.le_refl _) (Nat.zero_le _)))))).mono (by simp only [cntS]; omega) (by simp only [depS]; omega)
  | .tell a, h => (sz_tup (sz_cons ((sz_str (gX_kw .tell)).mono (Nat.le_refl _) (Nat.zero_le 4)) (sz_cons (sz_fA ⟨h.1, h.2⟩) (sz_nil.mono (Nat.le_refl _) (Nat.zero_le _))))).mono (by simp only [cntS]; omega) (by simp only [depS]; omega)
  | .ite a p q, h => by
    have h1 := sz_ps hm h.2.1
    have h2 := sz_ps hm h.2.2
    have k1 : Sz (.tuple (dP p)) (230 * cnt p) (2 * depS (.ite a p q) + 4) := (sz_tup h1).mono (Nat.le_refl _) (by simp only [depS]; omega)
    have k2 : Sz (.tuple (dP q)) (230 * cnt q) (2 * depS (.ite a p q) + 4) := (sz_tup h2).mono (Nat.le_refl _) (by simp only [depS]; omega)
    exact (sz_tup (sz_cons ((sz_str (gX_kw .ite)).mono (Nat.le_refl _) (Nat.zero_le _)) (sz_cons ((sz_fA h.1).mono (Nat.le_refl _) (by omega)) (sz_cons k1 (sz_cons k2 (sz_nil.mono (Nat.le_refl _) (Nat.zero_le _))))))).mono (by simp only [cntS]; omega) (by omega)
  | .inner p q, h => by
    have h1 := sz_ps hm h.1
    have h2 := sz_ps hm h.2
    have k1 : Sz (.tuple (dP p)) (230 * cnt p) (2 * depS (.inner p q) + 4) := (sz_tup h1).mono (Nat.le_refl _) (by simp only [depS]; omega)
    have k2 : Sz (.tuple (dP q)) (230 * cnt q) (2 * depS (.inner p q) + 4) := (sz_tup h2).mono (Nat.le_refl _) (by simp only [depS]; omega)
    exact (sz_tup (sz_cons ((sz_str (gX_kw .inner)).mono (Nat.le_refl _) (Nat.zero_le _)) (sz_cons k1 (sz_cons k2 (sz_nil.mono (Nat.le_refl _) (Nat.zero_le _)))))).mono (by simp only [cntS]; omega) (by omega)
  | .out, _ => (sz_tup (sz_cons (sz_str (gX_kw .out)) sz_nil)).mono (by simp only [cntS]; omega) (by simp only [depS]; omega)
  | .either p q, h => by
    have h1 := sz_ps hm h.1
    have h2 := sz_ps hm h.2
    have k1 : Sz (.tuple (dP p)) (230 * cnt p) (2 * depS (.either p q) + 4) := (sz_tup h1).mono (Nat.le_refl _) (by simp only [depS]; omega)
    have k2 : Sz (.tuple (dP q)) (230 * cnt q) (2 * depS (.either p q) + 4) := (sz_tup h2).mono (Nat.le_refl _) (by simp only [depS]; omega)
    exact (sz_tup (sz_cons ((sz_str (gX_kw .either)).mono (Nat.le_refl _) (Nat.zero_le _)) (sz_cons k1 (sz_cons k2 (sz_nil.mono (Nat.le_refl _) (Nat.zero_le _)))))).mono (by simp only [cntS]; omega) (by omega)
  | .retry, _ => (sz_tup (sz_cons (sz_str (gX_kw .retry)) sz_nil)).mono (by simp only [cntS]; omega) (by simp only [depS]; omega)
theorem sz_ps {m : Nat} (hm : m ≤ 10) : ∀ {p : List Stp}, okF m p → SzA (dP p) (230 * cnt p) (2 * dep0 p + 5)
  | [], _ => sz_nil.mono (Nat.zero_le _) (Nat.zero_le _)
  | s :: r, h => by
    have h1 := sz_st hm h.1
    have h2 := sz_ps hm h.2
    have hp := cntS_pos s
    exact (sz_cons (h1.mono (Nat.le_refl _) (show _ ≤ 2 * dep0 (s :: r) + 5 by simp only [dep0]; omega)) (h2.mono (Nat.le_refl _) (show _ ≤ 2 * dep0 (s :: r) + 5 by simp only [dep0]; omega))).mono (by simp only [cnt]; omega) (Nat.le_refl _)
end
theorem sz_pr {m : Nat} (hm : m ≤ 10) {p : List Stp} (h : okF m p) : Sz (.tuple (dP p)) (230 * cnt p) (2 * dep0 p + 6) := sz_tup (sz_ps hm h)
/-! ### what a walk answers -/
theorem sz_ints : ∀ {l : List Int}, (∀ i ∈ l, i.natAbs < 10 ^ 98) → SzA (l.map PyData.int) l.length 0
  | [], _ => sz_nil
  | i :: r, h => (sz_cons (sz_int (h i List.mem_cons_self)) (sz_ints fun j hj => h j (List.mem_cons_of_mem _ hj))).mono (by rw [List.length_cons]; omega) (Nat.le_refl _)
theorem sz_pairs : ∀ {l : List (Int × Int)}, (∀ p ∈ l, p.1.natAbs < 10 ^ 98 ∧ p.2.natAbs < 10 ^ 98) → SzA (l.map fun p => PyData.tuple [.int p.1, .int p.2]) (3 * l.length) 1
  | [], _ => sz_nil.mono (Nat.le_refl _) (Nat.zero_le _)
  | p :: r, h => by
    obtain ⟨h1, h2⟩ := h p List.mem_cons_self
    exact (sz_cons (sz_tup (sz_cons (sz_int h1) (sz_cons (sz_int h2) sz_nil))) (sz_pairs fun q hq => h q (List.mem_cons_of_mem _ hq))).mono (by rw [List.length_cons]; omega) (Nat.le_refl _)
theorem big_98 {n : Nat} (h : n ≤ 40) : big n < 10 ^ 98 := by
  refine Nat.lt_of_le_of_lt (big_mono h) ?_
  unfold big
  decide +kernel
theorem sz_out {n : Nat} (hn : n ≤ 40) {r : Wk × Left} (W : WB n r.1) : Sz (outD r) 1000 3 := by
  have b := big_98 hn
  have h100 : (100 : Nat) < 10 ^ 98 := by decide +kernel
  have k1 : SzA (r.1.spoke.map PyData.int) n 0 := (sz_ints fun i hi => Nat.lt_of_le_of_lt (W.t i hi) b).mono W.tl (Nat.le_refl _)
  have kp : ∀ l : List (Int × Int), l.length ≤ n → (∀ p ∈ l, p.1.natAbs ≤ 100) → (∀ p ∈ l, p.2.natAbs ≤ big n) → Sz (dPairs (srtI l)) (3 * n) 2 := fun l h1 h2 h3 => by
    have hp := srtI_perm l
    refine (sz_tup (sz_pairs fun p hp' => ?_)).mono (by rw [hp.length_eq]; omega) (Nat.le_refl _)
    have hm := hp.mem_iff.mp hp'
    exact ⟨Nat.lt_of_le_of_lt (h2 p hm) h100, Nat.lt_of_le_of_lt (h3 p hm) b⟩
  have k2 := kp r.1.wrote W.wl W.wk W.w
  have k3 := kp r.1.saw W.rl W.rk W.r
  have e1 : Sz (if r.2 = .fin then dInts r.1.spoke else dInts []) n 2 := by
    split
    · exact (sz_tup k1).mono (Nat.le_refl _) (by omega)
    · exact (sz_tup sz_nil).mono (Nat.zero_le _) (by omega)
  have e2 : Sz (if r.2 = .fin then dPairs (srtI r.1.wrote) else dPairs []) (3 * n) 2 := by
    split
    · exact k2
    · exact (sz_tup sz_nil).mono (Nat.zero_le _) (by omega)
  exact (sz_tup (sz_cons ((sz_str (gX_lw r.2)).mono (Nat.le_refl _) (Nat.zero_le _)) (sz_cons e1 (sz_cons e2 (sz_cons k3 (sz_nil.mono (Nat.le_refl _) (Nat.zero_le _))))))).mono (by omega) (Nat.le_refl _)
end Pk
-- ## PkRight
set_option Elab.async false
set_option linter.all false
set_option maxRecDepth 100000
set_option maxHeartbeats 4000000
namespace Pk
open PySem PySem.Spec PyProof.Rows L2
abbrev N_fits : List Str := ["program", "most", "deep"]
theorem sc_fits : FnScope N_fits ["program", "most", "deep"] (defScope s_fits) := ⟨rfl, rfl, rfl, by decide +kernel, rfl, by decide +kernel, by decide +kernel⟩
def spFits (n : Nat) : SpN := fun vs H Q => ∃ (p : List Stp) (v : V) (a b : Int), vs = [v, .int a, .int b] ∧ IsPr H p v ∧ dep0 p < n ∧ cnt p ≤ 1000 ∧ ∀ H', Same H H' → Q (.bl (decide ((cnt p : Int) ≤ a) && decide ((dep p : Int) ≤ b))) H'
section
variable {P : Program} {w : World} {K : PySem.W.Frag} {mg : Str → Option Value} {base : Heap} {n k : Nat}
theorem ok_fits {f : Addr} {fd : FuncData} {kws : List (Str × V)} (F : FunD K "fits" "fits" (defArgs s_fits) (defBody s_fits) (defScope s_fits) [] kws f fd) (gl : mg "len" = none) (C1 : Cal P w K mg base k "all_steps" ["program"] (spAll n)) (C2 : Cal P w K mg base k "depth" ["program"] (spDep n)) :
    FnOk P w K mg base CX0 (k + 1) f fd ["program", "most", "deep"] (spFits n).up := by
  refine fun_ok F sc_fits (fun vs H Q ⟨_, _, _, _, h, _⟩ => by rw [h]; rfl) fun cdv A outer s0 H vs Q E hr h => ?_
  obtain ⟨p, v, a, b, rfl, hp, hd, hc, q⟩ := h
  refine ⟨_, pss_one (ps_ret (pe_and (pe_cmpR op_le (pe_callB call_len_seq (by rfl) gl (by decide +kernel) (pa_cons (pe_cal C1 hr rfl (pa_cons (pv 0) pa_nil)) pa_nil)) (pv 1) (nomark _)) (pe_one (pe_cmpR op_le (pe_cal C2 hr rfl (pa_cons (pv 0) pa_nil)) (pv 2) (nomark _))))), ?_⟩
  refine ⟨_, rfl, p, v, rfl, hp, hd, hc, fun H1 l us s1 hl hlen => ⟨l, us, rfl, .inl (SqL.of hl), _, rfl, _, _, rfl, rfl, _, rfl, ?_⟩⟩
  rw [hlen]
  refine ite2 (fun c => ?_) (fun c => ?_)
  · refine ⟨_, rfl, p, v, rfl, hp.mono (Same.tle s1), hd, hc, fun H2 s2 => ⟨_, rfl, _, _, rfl, rfl, ?_⟩⟩
    have := q H2 (Same.trans s1 s2)
    rw [c, Bool.true_and] at this
    exact this
  · have := q H1 s1
    rw [show decide ((cnt p : Int) ≤ a) = false by simpa using c, Bool.false_and] at this
    exact this
end
abbrev N_law_right : List Str := ["_law_feed_here", "_law_program_here", "_law_scene_here", "_law_told", "_law_cells", "_law_notes", "_law_others", "_law_number_here", "_law_some", "_law_many", "_law_depths"]
theorem sc_law_right : FnScope N_law_right ["_law_feed_here", "_law_program_here", "_law_scene_here"] (defScope s_law_right) := ⟨rfl, rfl, rfl, by decide +kernel, rfl, by decide +kernel, by decide +kernel⟩
def spRight (K : PySem.W.Frag) : SpN := fun vs H Q => ∃ (fd cl sc : Addr) (H0 : Hp) (S : Sc) (p : List Stp) (v : V), vs = [.ref fd, v, .ref sc] ∧ IsFd H fd cl ∧ IsPr H p v ∧ IsSc K H0 H sc S ∧ ScOk S ∧ cnt p ≤ 30 ∧ dep0 p < 8 ∧ okF S.m p ∧ ∀ H', But (· = fd) H H' → IsFd H' fd cl → Q (.bl true) H'
/-- walked and fits, as they are called -/
structure RightTop (P : Program) (w : World) (K : PySem.W.Frag) (mg : Str → Option Value) (base : Heap) (k : Nat) : Prop where
  plain : Cal P w K mg base k "plainer" ["program"] (spPl 8)
  due : Cal P w K mg base k "_law_due" ["_law_program_here"] (spPl 8)
  count : Cal P w K mg base k "_law_count" ["_law_program_here"] spCount
  draw : Cal P w K mg base k "_law_draw" ["_law_feed_here", "_law_many"] spDraw
  wk : ∃ f fd sl ds, mg "walked" = some (.ref f) ∧ PySem.W.keepIn K (.ref f) = true ∧ FnOk P w K mg base CX0 k f fd ["program", "cells", "slots"] (spWalked K 8).up ∧ KBn K fd ["program", "cells", "slots"] 2 ["slots"] (fun us ws => us ++ ws) (fun vs zs => vs ++ zs) ∧
    Binds K fd ["program", "cells", "slots"] ds ∧ Vals [V.ref sl] ds ∧ ∀ H, TupD K H sl []
  ft : ∃ f fd, mg "fits" = some (.ref f) ∧ PySem.W.keepIn K (.ref f) = true ∧ FnOk P w K mg base CX0 k f fd ["program", "most", "deep"] (spFits 8).up ∧ KBn K fd ["program", "most", "deep"] 1 ["most", "deep"] (fun us ws => us ++ ws) (fun vs zs => vs ++ zs)
  g1 : mg "repr" = none
  g2 : mg "tuple" = none
theorem pw_or2 {X : Cx} {a b : Expr} {ta tb : TT} {pos : Pos} (ha : PT X a ta) (hb : PT X b tb) : PW X (.BoolOp .Or [a, b] pos) (tOr ta tb) := pw_or ha (pw_or1 hb)
section
variable {P : Program} {w : World} {K : PySem.W.Frag} {mg : Str → Option Value} {base : Heap} {k : Nat}
theorem ok_law_right {f : Addr} {fd : FuncData} (F : FunD K "_law_right" "_law_right" (defArgs s_law_right) (defBody s_law_right) (defScope s_law_right) [] [] f fd) (T : RightTop P w K mg base k) :
    FnG P w K mg base (k + 1) f fd ["_law_feed_here", "_law_program_here", "_law_scene_here"] (spRight K) := by
  obtain ⟨fw, fdw, sl, ds, gw, kw_, Fw, Kw_, Bw, Vw, Tw⟩ := T.wk
  obtain ⟨ff, fdf, gf, kf, Ff, Kf⟩ := T.ft
  refine fnG_of F sc_law_right (fun vs H Q ⟨_, _, _, _, _, _, _, h, _⟩ => by rw [h]; rfl) fun cdv A outer s0 H vs Q E hgd hr h => ?_
  obtain ⟨fd, cl, sc, H0, S, p, v, rfl, hF, hp, hS, hSok, hc, hd, ho, q⟩ := h
  have repr_ : ∀ {X : Cx}, X.A.guards = some [] → CallR X (.builtin "repr") (fun vs H Q => ∃ a d, vs = [.ref a] ∧ Dq X.K H (.ref a) d ∧ d.showable = true ∧ X.A.units + (d.depth + 1) < cLine ∧ d.shown.length ≤ sizeLine ∧ Q (.str d.shown) H) := fun h => cr_repr h
  refine ⟨_, pss_cons (ps_par3 (i := 3) (j := 4) (l := 5) rfl sc_law_right.nd rfl rfl rfl (by decide) (by decide) (by decide) rfl rfl rfl (pa_cons (pe_cal T.plain hr rfl (pa_cons (pv 1) pa_nil)) (pa_cons (pe_dget (u1 hr) (pv 2) pe_str (fun _ _ => rfl)) (pa_cons (pe_dget (u1 hr) (pv 2) pe_str (fun _ _ => rfl)) pa_nil))) (by rfl))
    (pss_cons (ps_if (PW.pt (pw_or2 (pt_cmpR op_ne (pe_callB (cr_repr hgd) (by rfl) T.g1 (by decide +kernel) (pa_cons (pv 3) pa_nil)) (pe_callB (cr_repr hgd) (by rfl) T.g1 (by decide +kernel) (pa_cons (pe_cal T.due hr rfl (pa_cons (pv 1) pa_nil)) pa_nil)) (nomark _))
        (pt_cmpR op_ne (pe_callB (cr_repr hgd) (by rfl) T.g1 (by decide +kernel) (pa_cons (pe_cal T.plain hr rfl (pa_cons (pv 3) pa_nil)) pa_nil)) (pe_callB (cr_repr hgd) (by rfl) T.g1 (by decide +kernel) (pa_cons (pv 3) pa_nil)) (nomark _)))) (pss_one (ps_ret pe_bl)) pss_nil)
    (pss_cons (ps_set (i := 6) sc_law_right.nd rfl (.inl rfl) (pe_callTy call_tuple_of (by rfl) T.g2 (by decide +kernel) (pa_cons (pe_lc (own := [("_law_number_here", 7)]) (g := gName 7) (tt := tYes) (te := tOp (rI0 fun i j => .int (i - j)) (tOp (rI0 fun i j => .int (i + j)) (tVar 7) (tCal spDraw (tCons (tVar 0) (tCons (tC (.int 3)) tNil)))) (tC (.int 1))) rfl sc_law_right.nd (pi_tup (pv 4)) (blkOk_by (N := N_law_right) (sc := defScope s_law_right) (by decide +kernel))
        (fun _ _ _ _ _ => pg_name (i := 7) sc_law_right.nd rfl (.inl rfl)) (fun _ _ _ _ _ => pts_nil) (fun _ _ _ _ _ => pe_op op_sub (pe_op op_add (pv 7) (pe_cal T.draw hr rfl (pa_cons (pv 0) (pa_cons pe_int pa_nil)))) pe_int)) pa_nil)))
    (pss_cons (ps_if (pt_cmpR op_ne (pe_callB (cr_repr hgd) (by rfl) T.g1 (by decide +kernel) (pa_cons (pe_callN (E := E0) Fw hr rfl gw kw_ Kw_ pass0 (pa_cons (pv 3) (pa_cons (pv 4) pa_nil)) (pk_cons (pv 5) pk_nil)) pa_nil)) (pe_callB (cr_repr hgd) (by rfl) T.g1 (by decide +kernel) (pa_cons (pe_callN (E := E0) Fw hr rfl gw kw_ Kw_ pass0 (pa_cons (pv 1) (pa_cons (pv 4) pa_nil)) (pk_cons (pv 5) pk_nil)) pa_nil)) (nomark _)) (pss_one (ps_ret pe_bl)) pss_nil)
    (pss_cons (ps_for PassesOwn.never rfl (pi_tup (pe_tup (pa_cons (pv 6) (pa_cons (pv 4) pa_nil)))) (pg_name (i := 8) sc_law_right.nd rfl (.inl rfl))
      (pss_one (ps_if (pt_cmpR op_ne (pe_callB (cr_repr hgd) (by rfl) T.g1 (by decide +kernel) (pa_cons (pe_call (dvs := [.ref sl]) (E := E0) Fw hr rfl gw kw_ Bw Vw pass0 (pa_cons (pv 3) (pa_cons (pv 8) pa_nil))) pa_nil)) (pe_callB (cr_repr hgd) (by rfl) T.g1 (by decide +kernel) (pa_cons (pe_call (dvs := [.ref sl]) (E := E0) Fw hr rfl gw kw_ Bw Vw pass0 (pa_cons (pv 1) (pa_cons (pv 8) pa_nil))) pa_nil)) (nomark _)) (pss_one (ps_ret pe_bl)) pss_nil)))
    (pss_cons (ps_asg (pe_cal T.count hr rfl (pa_cons (pv 1) pa_nil)) (pg_tup rfl (pgs_cons (pg_name (i := 9) sc_law_right.nd rfl (.inl rfl)) (pgs_cons (pg_name (i := 10) sc_law_right.nd rfl (.inl rfl)) pgs_nil))))
    (pss_one (ps_ret (pe_cmpR op_isBl (pe_callN (E := E0) Ff hr rfl gf kf Kf pass0 (pa_cons (pv 3) pa_nil) (pk_cons (pv 9) (pk_cons (pv 10) pk_nil))) pe_bl (nomark _))))))))), ?_⟩
  have hm10 : S.m ≤ 10 := Nat.le_trans hSok.m1 (by decide)
  have kp := pl_keeps p
  have hog : okF S.m (pl p) := kp.all _ _ ho
  have hkd := kp.dep
  have hkc := kp.cnt
  have hun : ∀ m : Nat, m ≤ 100 → (A.deeper (envOfC "_law_right" (defScope s_law_right) s0.heap.objs.size f cdv)).units + (m + 1) < cLine := fun m h => by have := hr.un; omega
  have hzP : Sz (.tuple (dP (pl p))) (230 * cnt (pl p)) (2 * dep0 (pl p) + 6) := sz_pr hm10 hog
  have hzf : (PyData.tuple (dP (pl p))).shown.length ≤ sizeLine := hzP.fits (by omega)
  have hzu := hun (PyData.tuple (dP (pl p))).depth (by have := hzP.e; omega)
  -- repr of the plainer one
  -- a walk of it, a walk of the program: one answer
  have wkd : ∀ (bs : List Int) (kvs : List (Str × Int)), bs.length = S.m → baseOk bs → WB 0 (w0 kvs) → ∃ D : PyData, Sz D 1000 3 ∧ (∀ (H' : Hp) (g : List Stp) (v' : V) (ba sl' : Addr) (ps' : List Addr) (Q' : VK), (g = pl p ∨ g = p) → IsPr H' g v' → SqT K H' ba (bs.map V.int) → TupD K H' sl' (ps'.map V.ref) → Paired (fun p (kv : Str × Int) => SqT K H' p [.str kv.1, .int kv.2]) ps' kvs →
      (∀ H2 u, Same H' H2 → Dq K H2 (.ref u) D → Q' (.ref u) H2) → spWalked K 8 [v', .ref ba, .ref sl'] H' Q') := fun bs kvs hbl hbo hwb => by
    have hbm : bs.length ≤ 10 := hbo.2
    have hW := go_WB (m := bs.length) hbo hbm p 0 (w0 kvs) hwb (by rw [hbl]; exact ho.okP)
    refine ⟨outD (go (opsW bs) p (w0 kvs)), sz_out (n := 0 + cnt p) (by omega) hW, fun H' g v' ba sl' ps' Q' hg hv hb hs hps q' => ?_⟩
    rcases hg with hg | hg
    · rw [hg] at hv
      refine ⟨pl p, v', ba, sl', bs, ps', kvs, rfl, hv, hb, hs, hps, by omega, by omega, by rw [hbl]; exact hog.okP, hbo, hwb, fun H2 u s2 hD => q' H2 u s2 ?_⟩
      rw [kp.go] at hD
      exact hD
    · rw [hg] at hv
      exact ⟨p, v', ba, sl', bs, ps', kvs, rfl, hv, hb, hs, hps, by omega, by omega, by rw [hbl]; exact ho.okP, hbo, hwb, q'⟩
  have c60 : (10 : Nat) ^ 59 + 102 ≤ 10 ^ 60 := by decide +kernel
  have hbo : baseOk S.cs := ⟨fun i hi => Nat.le_trans (hSok.cb i hi) (by omega), by rw [hSok.cl]; exact hm10⟩
  have hwb : WB 0 (w0 S.kvs) := by
    refine ⟨fun q hq => ?_, fun q hq => (by cases hq), fun q hq => (by cases hq), fun q hq => (by cases hq), fun q hq => (by cases hq), fun q hq => (by cases hq), ?_, Nat.le_refl _, Nat.le_refl _, Nat.le_refl _⟩
    · rcases mrg_mem hq with ⟨z, hz, e⟩ | h
      · rw [e]
        exact Nat.le_trans (hSok.kx z hz).2 (by decide +kernel)
      · cases h
    · have := mrg_len S.kvs []
      have := hSok.kl
      show (mrgF [] S.kvs).length ≤ 10 + 0
      simp only [List.length_nil] at *
      omega
  have hwb0 : WB 0 (w0 []) := by
    refine ⟨fun q hq => (by cases hq), fun q hq => (by cases hq), fun q hq => (by cases hq), fun q hq => (by cases hq), fun q hq => (by cases hq), fun q hq => (by cases hq), ?_, Nat.le_refl _, Nat.le_refl _, Nat.le_refl _⟩
    exact Nat.zero_le _
  obtain ⟨nl, ct, st, ps, h1, h2, h3, h4, h5, h6⟩ := hS
  refine ⟨_, rfl, p, v, rfl, hp, by omega, by omega, fun H1 w1 s1 hw1 => ?_⟩
  have g1 : DGet H1 sc (.str "cells") (some (.ref ct)) := DGet.k (k := Sum.inr "cells") (s1 _ _ h1)
  have g2 : DGet H1 sc (.str "slots") (some (.ref st)) := DGet.k (k := Sum.inr "slots") (s1 _ _ h1)
  refine ⟨_, rfl, sc, _, rfl, g1, _, rfl, sc, _, rfl, g2, _, _, _, rfl, ?_⟩
  show tSeq _ _ _ [some (.ref fd), some v, some (.ref sc), some w1, some (.ref ct), some (.ref st), none, none, none, none, none] H1
  have hp1 := hp.mono (Same.tle s1)
  -- the two comparisons of texts
  obtain ⟨t1, us1, rfl, hu1, hv1⟩ := id hw1
  refine ⟨_, rfl, t1, _, rfl, dq_pr hw1, hzP.a, hzu, hzf, ?_⟩
  refine ⟨_, rfl, p, v, rfl, hp1, by omega, by omega, fun H2 w2 s2 hw2 => ?_⟩
  obtain ⟨t2, us2, rfl, hu2, hv2⟩ := id hw2
  refine ⟨t2, _, rfl, dq_pr hw2, hzP.a, hzu, hzf, ?_⟩
  refine ⟨rfl, _, rfl, ?_⟩
  refine ite2 (fun c => by simp at c) (fun _ => ?_)
  have hw1' := hw1.mono (Same.tle s2)
  have hgg : pl (pl p) = pl p := pl_pl p
  refine ⟨_, rfl, pl p, .ref t1, rfl, hw1', by omega, by omega, fun H3 w3 s3 hw3 => ?_⟩
  rw [hgg] at hw3
  obtain ⟨t3, us3, rfl, hu3, hv3⟩ := id hw3
  refine ⟨t3, _, rfl, dq_pr hw3, hzP.a, hzu, hzf, ?_⟩
  have hw13 := hw1'.mono (Same.tle s3)
  refine ⟨_, rfl, t1, _, rfl, dq_pr hw13, hzP.a, hzu, hzf, ?_⟩
  refine ⟨rfl, _, rfl, ?_⟩
  refine ite2 (fun c => by simp at c) (fun _ => ?_)
  have s03 := Same.trans s1 (Same.trans s2 s3)
  have f3 := hF.same s03
  have hp3 := hp.mono (Same.tle s03)
  have h43 := Same.sqT s03 h4
  have h53 := h5.keep fun o u e => s03 _ _ e
  have h63 := paired_imp (fun a kv z => Same.sqT s03 z) h6
  -- the others
  have hlc : (S.cs.map V.int).length = S.cs.length := List.length_map ..
  refine ⟨.ref ct, rfl, ct, rfl, ⟨_, h43⟩, fun D nD => ?_⟩
  have Df : D ≠ fd := f3.none nD
  have Dc : D ≠ cl := f3.none2 nD
  refine lc_it (walk_tup (xs := S.cs.map V.int)) (fun j H' => But (· = fd) H3 H' ∧ IsFd H' fd cl ∧ ∃ zs : List Int, H' D = some (.lst (zs.map V.int)) ∧ zs.length = j ∧ ∀ i ∈ zs, i.natAbs ≤ 10 ^ 60) ⟨Same.but (same_upd nD), f3.same (same_upd nD), [], upd_same, rfl, fun i hi => by cases hi⟩
    (fun j H' _ ⟨b, _⟩ => f3.sqT b h43) (fun j x H4 H5 hj ⟨b4, f4, zs, hD, hzl, hzb⟩ hY => ?_) (fun H4 ⟨b4, f4, zs, hD, hzl, hzb⟩ => ?_)
  · obtain ⟨e5, hx5⟩ := hY
    subst e5
    rw [List.getElem?_map] at hx5
    obtain ⟨i0, hi0, rfl⟩ := Option.map_eq_some_iff.mp hx5
    have hib := hSok.cb i0 (List.mem_of_getElem? hi0)
    refine ⟨rfl, tyes ⟨_, rfl, _, rfl, fd, cl, 3, rfl, f4, by decide, by decide, fun H6 r6 b6 f6 r60 r61 => ⟨_, _, rfl, rfl, _, _, rfl, rfl, _, b6 _ _ hD Df, ?_, but_new (b4.trans b6) nD, f6.upd Df Dc, zs ++ [i0 + r6 - 1], by rw [upd_same, List.map_append]; rfl, by rw [List.length_append, hzl]; rfl, fun i hi => ?_⟩⟩⟩
    · rw [List.length_map, hzl, sizeLine_eq]
      have := hSok.m1
      rw [hlc, hSok.cl] at hj
      omega
    · rcases List.mem_append.mp hi with h | h
      · exact hzb i h
      · rw [List.mem_singleton.mp h]
        omega
  · rw [hlc, hSok.cl] at hzl
    refine ⟨D, _, rfl, .inl ⟨SqL.of hD, fun oa noa => ?_⟩⟩
    have so := same_upd (o := .tup (zs.map V.int)) noa
    have hoa : upd H4 oa (.tup (zs.map V.int)) oa = some (.tup (zs.map V.int)) := upd_same
    have b05 := (Same.but s03).trans (b4.trans (Same.but so))
    have b35 := b4.trans (Same.but so)
    have f5 := f4.same so
    show tSeq _ _ _ [some (.ref fd), some v, some (.ref sc), some (.ref t1), some (.ref ct), some (.ref st), some (.ref oa), none, none, none, none] (upd H4 oa (.tup (zs.map V.int)))
    generalize upd H4 oa (.tup (zs.map V.int)) = H5 at so hoa b05 b35 f5
    have tl35 := f3.tle b35
    have hp5 := hp3.mono tl35
    have hw5 := hw13.mono tl35
    have h45 := f3.sqT b35 h43
    have h55 := f3.tupD b35 h53
    have h65 := paired_imp (fun a kv z => f3.sqT b35 z) h63
    -- with slots
    obtain ⟨D1, hz1, wk1⟩ := wkd S.cs S.kvs hSok.cl hbo hwb
    refine ⟨_, rfl, _, rfl, _, rfl, rfl, rfl, wk1 H5 (pl p) (.ref t1) ct st ps _ (.inl rfl) hw5 h45 h55 h65 fun H6 u6 s6 hu6 => ⟨u6, D1, rfl, hu6, hz1.a, hun _ (by have := hz1.e; omega), hz1.fits (by decide), ?_⟩⟩
    have hp6 := hp5.mono (Same.tle s6)
    refine ⟨_, rfl, _, rfl, _, rfl, rfl, rfl, wk1 H6 p v ct st ps _ (.inr rfl) hp6 (Same.sqT s6 h45) (h55.keep fun o u e => s6 _ _ e) (paired_imp (fun a kv z => Same.sqT s6 z) h65) fun H7 u7 s7 hu7 => ⟨u7, D1, rfl, hu7, hz1.a, hun _ (by have := hz1.e; omega), hz1.fits (by decide), ?_⟩⟩
    refine ⟨rfl, _, rfl, ?_⟩
    refine ite2 (fun c => by simp at c) (fun _ => ?_)
    have s57 := Same.trans s6 s7
    have b07 := b05.trans (Same.but s57)
    have f7 := f5.same s57
    have hp7 := hp5.mono (Same.tle s57)
    have hw7 := hw5.mono (Same.tle s57)
    have h47 := Same.sqT s57 h45
    have hoa7 := s57 _ _ hoa
    -- without
    refine ⟨_, rfl, _, rfl, by show 2 ≤ sizeLine; decide, fun tt nt => ?_⟩
    have st8 := same_upd (o := .tup [.ref oa, .ref ct]) nt
    have htt : upd H7 tt (.tup [.ref oa, .ref ct]) tt = some (.tup [.ref oa, .ref ct]) := upd_same
    have b08 := b07.trans (Same.but st8)
    have f8 := f7.same st8
    have hp8 := hp7.mono (Same.tle st8)
    have hw8 := hw7.mono (Same.tle st8)
    have h48 := Same.sqT st8 h47
    have hoa8 := st8 _ _ hoa7
    generalize upd H7 tt (.tup [.ref oa, .ref ct]) = H8 at st8 htt b08 f8 hp8 hw8 h48 hoa8
    refine ⟨tt, rfl, ⟨_, SqT.of htt⟩, for_it (walk_tup (xs := [V.ref oa, V.ref ct])) (fun j σ H' => ∃ y8, σ = [some (.ref fd), some v, some (.ref sc), some (.ref t1), some (.ref ct), some (.ref st), some (.ref oa), none, y8, none, none] ∧ Same H8 H') ⟨none, rfl, Same.refl _⟩ (fun j σ H' _ ⟨_, _, s⟩ => Same.sqT s (SqT.of htt)) (fun j x σ H9 H10 hj ⟨y8, e1, s9⟩ hY => ?_) (fun σ H9 ⟨y8, e1, s9⟩ => ?_)⟩
    · obtain ⟨e2, hx⟩ := hY
      subst e1 e2
      obtain ⟨xa, bs, rfl, hxb, hbl, hbb⟩ : ∃ xa bs, x = .ref xa ∧ SqT K H8 xa (bs.map V.int) ∧ bs.length = S.m ∧ baseOk bs := by
        have hj2 : j < 2 := hj
        rcases (show j = 0 ∨ j = 1 by omega) with e0 | e0
        · subst e0
          cases hx
          exact ⟨oa, zs, rfl, SqT.of hoa8, hzl, hzb, by omega⟩
        · subst e0
          cases hx
          exact ⟨ct, S.cs, rfl, h48, hSok.cl, hbo⟩
      obtain ⟨D2, hz2, wk2⟩ := wkd bs [] hbl hbb hwb0
      refine ⟨_, rfl, _, rfl, ?_⟩
      dsimp only [tNil]
      refine wk2 H10 (pl p) (.ref t1) xa sl [] _ (.inl rfl) (hw8.mono (Same.tle s9)) (Same.sqT s9 hxb) (Tw _) .nil fun H11 u11 s11 hu11 => ⟨u11, D2, rfl, hu11, hz2.a, hun _ (by have := hz2.e; omega), hz2.fits (by decide), ?_⟩
      have s811 := Same.trans s9 s11
      refine ⟨_, rfl, _, rfl, ?_⟩
      dsimp only [tNil]
      refine wk2 H11 p v xa sl [] _ (.inr rfl) (hp8.mono (Same.tle s811)) (Same.sqT s811 hxb) (Tw _) .nil fun H12 u12 s12 hu12 => ⟨u12, D2, rfl, hu12, hz2.a, hun _ (by have := hz2.e; omega), hz2.fits (by decide), ?_⟩
      refine ⟨rfl, _, rfl, ?_⟩
      refine ite2 (fun c => by simp at c) (fun _ => ?_)
      exact ⟨_, rfl, Same.trans s811 s12⟩
    · subst e1
      have hp9 := hp8.mono (Same.tle s9)
      refine ⟨_, rfl, p, v, rfl, hp9, by omega, fun H10 tc s10 htc => ?_⟩
      refine ⟨tc, _, rfl, SqT.of htc, rfl, _, _, rfl, _, _, rfl, rfl, ?_⟩
      have s810 := Same.trans s9 s10
      refine ⟨_, rfl, _, rfl, _, rfl, rfl, rfl, pl p, .ref t1, _, _, rfl, hw8.mono (Same.tle s810), by omega, by omega, fun H11 s11 => ?_⟩
      refine ⟨_, _, rfl, rfl, ?_⟩
      have e1 : decide ((cnt (pl p) : Int) ≤ (cnt p : Int)) = true := decide_eq_true (by omega)
      have e2 : decide ((dep (pl p) : Int) ≤ (dep p : Int)) = true := decide_eq_true (by simp only [dep]; omega)
      rw [e1, e2]
      have s811 := Same.trans s810 s11
      exact q H11 (b08.trans (Same.but s811)) (f8.same s811)
end
end Pk
-- ## PkTop
set_option Elab.async false
set_option linter.all false
set_option maxRecDepth 100000
set_option maxHeartbeats 4000000
namespace Pk
open PySem PySem.Spec PyProof.Rows L2
/-! ### sizes of dicts -/
structure SzK (ds : List (PyData × PyData)) (n dp : Nat) : Prop where
  a : PyData.showableKv ds = true
  b : PyData.leavesShortKv 100 ds = true
  c : PyData.bulkKv ds ≤ n
  e : PyData.depthKv ds ≤ dp
theorem sz_knil : SzK [] 0 0 := ⟨rfl, rfl, Nat.le_refl _, Nat.le_refl _⟩
theorem sz_kcons {k d : PyData} {ds : List (PyData × PyData)} {n1 n2 m d1 d2 dp : Nat} (hk : Sz k n1 d1) (h : Sz d n2 d2) (t : SzK ds m dp) : SzK ((k, d) :: ds) (n1 + n2 + 2 + m) (max (max d1 d2) dp) :=
  ⟨by simp only [PyData.showableKv, hk.a, h.a, t.a]; rfl, by simp only [PyData.leavesShortKv, hk.b, h.b, t.b]; rfl, by simp only [PyData.bulkKv]; have := hk.c; have := h.c; have := t.c; omega, by simp only [PyData.depthKv]; have := hk.e; have := h.e; have := t.e; omega⟩
theorem sz_dict {ds : List (PyData × PyData)} {n dp : Nat} (h : SzK ds n dp) : Sz (.dict ds) n (dp + 1) :=
  ⟨by simp only [PyData.showable]; exact h.a, by simp only [PyData.leavesShort]; exact h.b, by simp only [PyData.bulk]; exact h.c, by simp only [PyData.depth]; have := h.e; omega⟩
theorem sz_strs : ∀ {l : List Str}, (∀ x ∈ l, gX x) → SzA (l.map PyData.str) (9 * l.length) 0
  | [], _ => sz_nil
  | x :: r, h => (sz_cons (sz_str (h x List.mem_cons_self)) (sz_strs fun y hy => h y (List.mem_cons_of_mem _ hy))).mono (by rw [List.length_cons]; omega) (Nat.le_refl _)
theorem sz_kvs : ∀ {l : List (Str × Int)}, (∀ p ∈ l, gX p.1 ∧ p.2.natAbs < 10 ^ 98) → SzA (l.map fun p => PyData.tuple [.str p.1, .int p.2]) (11 * l.length) 1
  | [], _ => sz_nil.mono (Nat.le_refl _) (Nat.zero_le _)
  | p :: r, h => by
    obtain ⟨h1, h2⟩ := h p List.mem_cons_self
    exact (sz_cons (sz_tup (sz_cons (sz_str h1) (sz_cons (sz_int h2) sz_nil))) (sz_kvs fun q hq => h q (List.mem_cons_of_mem _ hq))).mono (by rw [List.length_cons]; omega) (Nat.le_refl _)
/-- the scene as data -/
def dSc (S : Sc) : PyData := .dict [(.str "names", .list (S.names.map PyData.str)), (.str "many", .int (S.m : Int)), (.str "cells", .tuple (S.cs.map PyData.int)), (.str "slots", .tuple (S.kvs.map fun p => PyData.tuple [.str p.1, .int p.2]))]
theorem sz_sc {S : Sc} (h : ScOk S) : Sz (dSc S) 200 3 := by
  have g : ∀ x : Str, x = "names" ∨ x = "many" ∨ x = "cells" ∨ x = "slots" → gX x := fun x hx => by
    rcases hx with rfl | rfl | rfl | rfl <;> (unfold gX; decide +kernel)
  have big98' : (10 : Nat) ^ 59 + 100 < 10 ^ 98 := by decide +kernel
  have b6 : (10 : Nat) ^ 6 < 10 ^ 98 := by decide +kernel
  have b8 : 8 < 10 ^ 98 := by decide +kernel
  have h1 := h.n1
  have h2 := h.m1
  have h3 := h.cl
  have h4 := h.kl
  refine (sz_dict (sz_kcons (sz_str (g _ (.inl rfl))) (sz_lst (sz_strs h.nx)) (sz_kcons (sz_str (g _ (.inr (.inl rfl)))) (sz_int (i := (S.m : Int)) (by omega)) (sz_kcons (sz_str (g _ (.inr (.inr (.inl rfl))))) (sz_tup (sz_ints fun i hi => Nat.lt_of_le_of_lt (h.cb i hi) big98')) (sz_kcons (sz_str (g _ (.inr (.inr (.inr rfl))))) (sz_tup (sz_kvs fun p hp => ⟨(h.kx p hp).1, Nat.lt_of_le_of_lt (h.kx p hp).2 b6⟩)) sz_knil))))).mono ?_ ?_
  · omega
  · omega
theorem dqs_strs {K : PySem.W.Frag} {H : Hp} : ∀ l : List Str, DqAll K H (l.map V.str) (l.map PyData.str)
  | [] => .nil
  | x :: r => .cons (.str x) (dqs_strs r)
theorem dqs_ints {K : PySem.W.Frag} {H : Hp} : ∀ l : List Int, DqAll K H (l.map V.int) (l.map PyData.int)
  | [] => .nil
  | x :: r => .cons (.int x) (dqs_ints r)
theorem dqs_kvs {K : PySem.W.Frag} {H : Hp} : ∀ {ps : List Addr} {l : List (Str × Int)}, Paired (fun p (kv : Str × Int) => SqT K H p [.str kv.1, .int kv.2]) ps l → DqAll K H (ps.map V.ref) (l.map fun p => PyData.tuple [.str p.1, .int p.2])
  | _, _, .nil => .nil
  | _, _, .cons z t => .cons (.tup z (.cons (.str _) (.cons (.int _) .nil))) (dqs_kvs t)
theorem dq_sc {K : PySem.W.Frag} {H0 H : Hp} {sc : Addr} {S : Sc} (h : IsSc K H0 H sc S) : Dq K H (.ref sc) (dSc S) := by
  obtain ⟨nl, ct, st, ps, h1, h2, h3, h4, h5, h6⟩ := h
  exact .dict h1 (.cons (.lst (SqL.of h2) h3 (dqs_strs _)) (.cons (.int _) (.cons (.tup h4 (dqs_ints _)) (.cons (.tup h5.sqT (dqs_kvs h6)) .nil))))
/-- programs as data -/
def dPs : List (List Stp) → List PyData
  | [] => []
  | p :: r => .tuple (dP p) :: dPs r
theorem dq_prs {K : PySem.W.Frag} {H : Hp} : ∀ {ps : List (List Stp)} {vs : List V}, IsPrs H ps vs → DqAll K H vs (dPs ps)
  | [], _, h => by rw [show _ = [] from h]; exact .nil
  | p :: r, _, ⟨v, vr, h, a, b⟩ => by rw [h]; exact .cons (dq_pr a) (dq_prs b)
/-- what is asked of each program -/
def okT (m : Nat) (p : List Stp) : Prop := cnt p ≤ 30 ∧ dep0 p < 8 ∧ okF m p
theorem sz_prs {m : Nat} (hm : m ≤ 10) : ∀ {ps : List (List Stp)}, (∀ p ∈ ps, okT m p) → SzA (dPs ps) (7000 * ps.length) 20
  | [], _ => sz_nil.mono (Nat.le_refl _) (Nat.zero_le _)
  | p :: r, h => by
    obtain ⟨h1, h2, h3⟩ := h p List.mem_cons_self
    exact (sz_cons ((sz_pr hm h3).mono (Nat.le_refl _) (show _ ≤ 20 by omega)) (sz_prs hm fun q hq => h q (List.mem_cons_of_mem _ hq))).mono (by rw [List.length_cons]; omega) (Nat.le_refl _)
theorem IsPrs.append {H : Hp} {qs : List (List Stp)} {us : List V} (k : IsPrs H qs us) : ∀ {ps : List (List Stp)} {vs : List V}, IsPrs H ps vs → IsPrs H (ps ++ qs) (vs ++ us)
  | [], _, h => by rw [show _ = [] from h]; exact k
  | p :: r, _, ⟨v, vr, h, a, b⟩ => by rw [h]; exact ⟨v, vr ++ us, rfl, a, IsPrs.append k b⟩
theorem IsPrs.one {H : Hp} {p : List Stp} {v : V} (h : IsPr H p v) : IsPrs H [p] [v] := ⟨v, [], rfl, h, rfl⟩
theorem tle_set {H : Hp} {r : Addr} {xs ys : List V} (h : H r = some (.lst xs)) : TLe H (upd H r (.lst ys)) := fun a zs e => by
  by_cases z : a = r
  · rw [z, h] at e
    cases e
  · rw [upd_ne z]
    exact e
/-! ### programs that the text spells out -/
def Bd (σ : L2.St) (H0 : Hp) (t : TE) (F : Hp → V → Prop) : Prop := ∀ H Q, Same H0 H → (∀ H' v, Same H H' → F H' v → Q v H') → t σ H Q
section
variable {σ : L2.St} {H0 : Hp}
theorem bd_num {i : Int} : Bd σ H0 (tTup (tCons (tC (.str "num")) (tCons (tC (.int i)) tNil))) fun H v => IsSm H (.num i) v := fun H Q s q =>
  ⟨by show 2 ≤ sizeLine; decide, fun p np => q _ _ (same_upd np) ⟨p, rfl, upd_same⟩⟩
theorem bd_tell {t : TE} {a : Sm} (h : Bd σ H0 t fun H v => IsSm H a v) : Bd σ H0 (tTup (tCons (tC (.str "tell")) (tCons t tNil))) fun H v => IsSt H (.tell a) v := fun H Q s q =>
  h _ _ s fun H1 v1 s1 h1 => ⟨by show 2 ≤ sizeLine; decide, fun p np => q _ _ (Same.trans s1 (same_upd np)) ⟨v1, ⟨p, rfl, upd_same⟩, h1.mono (Same.tle (same_upd np))⟩⟩
theorem bd_retry : Bd σ H0 (tTup (tCons (tC (.str "retry")) tNil)) fun H v => IsSt H .retry v := fun H Q s q =>
  ⟨by show 1 ≤ sizeLine; decide, fun p np => q _ _ (same_upd np) ⟨p, rfl, upd_same⟩⟩
theorem bd_out : Bd σ H0 (tTup (tCons (tC (.str "out")) tNil)) fun H v => IsSt H .out v := fun H Q s q =>
  ⟨by show 1 ≤ sizeLine; decide, fun p np => q _ _ (same_upd np) ⟨p, rfl, upd_same⟩⟩
theorem bd_p0 : Bd σ H0 (tTup tNil) fun H v => IsPr H [] v := fun H Q s q =>
  ⟨by show 0 ≤ sizeLine; decide, fun p np => q _ _ (same_upd np) ⟨p, [], rfl, upd_same, rfl⟩⟩
theorem bd_p1 {t : TE} {a : Stp} (h : Bd σ H0 t fun H v => IsSt H a v) : Bd σ H0 (tTup (tCons t tNil)) fun H v => IsPr H [a] v := fun H Q s q =>
  h _ _ s fun H1 v1 s1 h1 => ⟨by show 1 ≤ sizeLine; decide, fun p np => q _ _ (Same.trans s1 (same_upd np)) ⟨p, [v1], rfl, upd_same, v1, [], rfl, h1.mono (Same.tle (same_upd np)), rfl⟩⟩
theorem bd_p2 {t u : TE} {a b : Stp} (h : Bd σ H0 t fun H v => IsSt H a v) (k : Bd σ H0 u fun H v => IsSt H b v) : Bd σ H0 (tTup (tCons t (tCons u tNil))) fun H v => IsPr H [a, b] v := fun H Q s q =>
  h _ _ s fun H1 v1 s1 h1 => k _ _ (Same.trans s s1) fun H2 v2 s2 h2 => ⟨by show 2 ≤ sizeLine; decide, fun p np => q _ _ (Same.trans s1 (Same.trans s2 (same_upd np))) ⟨p, [v1, v2], rfl, upd_same, v1, [v2], rfl, h1.mono (Same.tle (Same.trans s2 (same_upd np))), v2, [], rfl, h2.mono (Same.tle (same_upd np)), rfl⟩⟩
theorem bd_inner {t u : TE} {a b : List Stp} (h : Bd σ H0 t fun H v => IsPr H a v) (k : Bd σ H0 u fun H v => IsPr H b v) : Bd σ H0 (tTup (tCons (tC (.str "inner")) (tCons t (tCons u tNil)))) fun H v => IsSt H (.inner a b) v := fun H Q s q =>
  h _ _ s fun H1 v1 s1 h1 => k _ _ (Same.trans s s1) fun H2 v2 s2 h2 => by
    obtain ⟨t1, us1, rfl, a1, b1⟩ := h1
    obtain ⟨t2, us2, rfl, a2, b2⟩ := h2
    exact ⟨by show 3 ≤ sizeLine; decide, fun p np => q _ _ (Same.trans s1 (Same.trans s2 (same_upd np))) ⟨t1, t2, us1, us2, ⟨p, rfl, upd_same⟩, ⟨Same.trans s2 (same_upd np) _ _ a1, b1.mono (Same.tle (Same.trans s2 (same_upd np)))⟩, ⟨same_upd np _ _ a2, b2.mono (Same.tle (same_upd np))⟩⟩⟩
theorem bd_either {t u : TE} {a b : List Stp} (h : Bd σ H0 t fun H v => IsPr H a v) (k : Bd σ H0 u fun H v => IsPr H b v) : Bd σ H0 (tTup (tCons (tC (.str "either")) (tCons t (tCons u tNil)))) fun H v => IsSt H (.either a b) v := fun H Q s q =>
  h _ _ s fun H1 v1 s1 h1 => k _ _ (Same.trans s s1) fun H2 v2 s2 h2 => by
    obtain ⟨t1, us1, rfl, a1, b1⟩ := h1
    obtain ⟨t2, us2, rfl, a2, b2⟩ := h2
    exact ⟨by show 3 ≤ sizeLine; decide, fun p np => q _ _ (Same.trans s1 (Same.trans s2 (same_upd np))) ⟨t1, t2, us1, us2, ⟨p, rfl, upd_same⟩, ⟨Same.trans s2 (same_upd np) _ _ a1, b1.mono (Same.tle (Same.trans s2 (same_upd np)))⟩, ⟨same_upd np _ _ a2, b2.mono (Same.tle (same_upd np))⟩⟩⟩
theorem bd_ite {t0 t u : TE} {c : Sm} {a b : List Stp} (g : Bd σ H0 t0 fun H v => IsSm H c v) (h : Bd σ H0 t fun H v => IsPr H a v) (k : Bd σ H0 u fun H v => IsPr H b v) : Bd σ H0 (tTup (tCons (tC (.str "if")) (tCons t0 (tCons t (tCons u tNil))))) fun H v => IsSt H (.ite c a b) v := fun H Q s q =>
  g _ _ s fun Hg vg sg hg => h _ _ (Same.trans s sg) fun H1 v1 s1 h1 => k _ _ (Same.trans s (Same.trans sg s1)) fun H2 v2 s2 h2 => by
    obtain ⟨t1, us1, rfl, a1, b1⟩ := h1
    obtain ⟨t2, us2, rfl, a2, b2⟩ := h2
    exact ⟨by show 4 ≤ sizeLine; decide, fun p np => q _ _ (Same.trans sg (Same.trans s1 (Same.trans s2 (same_upd np)))) ⟨vg, t1, t2, us1, us2, ⟨p, rfl, upd_same⟩, hg.mono (Same.tle (Same.trans s1 (Same.trans s2 (same_upd np)))), ⟨Same.trans s2 (same_upd np) _ _ a1, b1.mono (Same.tle (Same.trans s2 (same_upd np)))⟩, ⟨same_upd np _ _ a2, b2.mono (Same.tle (same_upd np))⟩⟩⟩
theorem bd_var {i : Nat} {v : V} {p : List Stp} (e : σ[i]? = some (some v)) (h : IsPr H0 p v) : Bd σ H0 (tVar i) fun H v => IsPr H p v := fun H Q s q => ⟨v, e, q _ _ (Same.refl _) (h.mono (Same.tle s))⟩
end
theorem r_seq {t u : TS} {D : Ends} {σ : L2.St} {H : Hp} (h : t { nx := u D, rt := D.rt, bk := D.bk, ct := D.ct } σ H) : tSeq t u D σ H := h
theorem r_asg {te : TE} {g : TG} {D : Ends} {σ : L2.St} {H : Hp} (h : te σ H fun x H1 => g x σ H1 D.nx) : tAsg te g D σ H := h
theorem r_arg {t : TE} {σ : L2.St} {H : Hp} {R : List V → Hp → Prop} (h : t σ H fun x H1 => R [x] H1) : tCons t tNil σ H R := h
theorem Bd.go {σ : L2.St} {H : Hp} {t : TE} {F : Hp → V → Prop} {Q : VK} (h : Bd σ H t F) (q : ∀ H' v, Same H H' → F H' v → Q v H') : t σ H Q := h H Q (Same.refl _) q
/-- the list of programs at L, as the law goes on -/
structure LwS (H2 : Hp) (fd cl L : Addr) (m : Nat) (H' : Hp) (ps : List (List Stp)) (us : List V) : Prop where
  b : But (· = fd) H2 H'
  f : IsFd H' fd cl
  l : H' L = some (.lst us)
  p : IsPrs H' ps us
  o : ∀ p ∈ ps, okT m p
section
variable {H2 H' H'' : Hp} {fd cl L : Addr} {m : Nat} {ps : List (List Stp)} {us : List V}
theorem LwS.but (h : LwS H2 fd cl L m H' ps us) (b : But (· = fd) H' H'') (f : IsFd H'' fd cl) : LwS H2 fd cl L m H'' ps us :=
  ⟨h.b.trans b, f, b _ _ h.l (h.f.ne_lst h.l), h.p.mono (h.f.tle b), h.o⟩
theorem LwS.same (h : LwS H2 fd cl L m H' ps us) (s : Same H' H'') : LwS H2 fd cl L m H'' ps us := h.but (Same.but s) (h.f.same s)
theorem LwS.add (h : LwS H2 fd cl L m H' ps us) (nL : H2 L = none) (Lf : L ≠ fd) (Lc : L ≠ cl) (s : Same H' H'') {p : List Stp} {v : V} (hp : IsPr H'' p v) (ho : okT m p) : LwS H2 fd cl L m (upd H'' L (.lst (us ++ [v]))) (ps ++ [p]) (us ++ [v]) := by
  have h' := h.same s
  refine ⟨but_new h'.b nL, h'.f.upd Lf Lc, upd_same, (IsPrs.append (IsPrs.one hp) h'.p).mono (tle_set h'.l), fun q hq => ?_⟩
  rcases List.mem_append.mp hq with z | z
  · exact h.o q z
  · rw [List.mem_singleton.mp z]; exact ho
end
abbrev lp1 : List Stp := [.inner [.retry, .out] [.tell (.num 1)], .tell (.num 2)]
abbrev lpN : List Stp := [.ite (.num 0) [.retry] []]
abbrev lp2 : List Stp := [.either [.either [.retry] lpN, .out] []]
abbrev lpI : List Stp := [.inner [.out] [.out]]
abbrev lp3 : List Stp := [.inner lpI [.tell (.num 3)]]
theorem fA_num {i : Int} (h : i.natAbs ≤ 10) : fA (.num i) := ⟨⟨Nat.le_trans h (show 10 ≤ 10 ^ 60 by decide +kernel), Nat.zero_le _⟩, trivial⟩
theorem ok_lp0 (m : Nat) : okT m [] := ⟨Nat.zero_le _, by decide, trivial⟩
theorem ok_lp1 (m : Nat) : okT m lp1 := ⟨by decide +kernel, by decide +kernel, by simp [allP, allS, fS, fA, okS, tX, okA, smB, sdep, smX]⟩
theorem ok_lp2 (m : Nat) : okT m lp2 := ⟨by decide +kernel, by decide +kernel, by simp [allP, allS, fS, fA, okS, tX, okA, smB, sdep, smX]⟩
theorem ok_lp3 (m : Nat) : okT m lp3 := ⟨by decide +kernel, by decide +kernel, by simp [allP, allS, fS, fA, okS, tX, okA, smB, sdep, smX]⟩
abbrev N_law : List Str := ["_law_script", "_law_feed_here", "_law_scene_here", "_law_some", "_law_never", "_law_nested", "_law_before", "_law_k", "_law_program_here"]
theorem sc_law : FnScope N_law ["_law_script"] (defScope s_law) := ⟨rfl, rfl, rfl, by decide +kernel, rfl, by decide +kernel, by decide +kernel⟩
def spLaw (K : PySem.W.Frag) : SpN := fun vs H Q => ∃ (a : Addr) (ns : List Int), vs = [.ref a] ∧ SqL K H a (ns.map V.int) ∧ ∀ H', Q (.bl true) H'
section
variable {P : Program} {w : World} {K : PySem.W.Frag} {mg : Str → Option Value} {base : Heap} {k : Nat}
theorem ok_law {f : Addr} {fd : FuncData} (F : FunD K "law" "law" (defArgs s_law) (defBody s_law) (defScope s_law) [] [] f fd)
    (Fe : Cal P w K mg base k "_law_feed" ["_law_script"] (spFeed K)) (Sc : Cal P w K mg base k "_law_scene" ["_law_feed_here"] (spScene K)) (An : Cal P w K mg base k "_law_any" ["_law_feed_here", "_law_scene_here"] spAny) (Fx : Cal P w K mg base k "_law_fixed_ifs" ["_law_feed_here", "_law_program_here"] (spFix 6))
    (Ri : ∃ f fd, mg "_law_right" = some (.ref f) ∧ PySem.W.keepIn K (.ref f) = true ∧ Binds K fd ["_law_feed_here", "_law_program_here", "_law_scene_here"] [] ∧ FnG P w K mg base k f fd ["_law_feed_here", "_law_program_here", "_law_scene_here"] (spRight K)) (g1 : mg "repr" = none) (g2 : mg "range" = none) :
    FnG P w K mg base (k + 1) f fd ["_law_script"] (spLaw K) := by
  obtain ⟨fr, fdr, gr, kr, Br, Fr⟩ := Ri
  refine fnG_of F sc_law (fun vs H Q ⟨_, _, h, _⟩ => by rw [h]; rfl) fun cdv A outer s0 H vs Q E hgd hr h => ?_
  obtain ⟨a0, ns, rfl, hL, q⟩ := h
  refine ⟨_, pss_cons (ps_set (i := 1) sc_law.nd rfl (.inr rfl) (pe_cal Fe hr rfl (pa_cons (pv 0) pa_nil)))
    (pss_cons (ps_set (i := 2) sc_law.nd rfl (.inr rfl) (pe_cal Sc hr rfl (pa_cons (pv 1) pa_nil)))
    (pss_cons (ps_set (i := 3) sc_law.nd rfl (.inl rfl) (pe_op op_catN (pe_lc (own := [("_law_k", 7)]) (g := gName 7) (tt := tYes) (te := tCal (spFix 6) (tCons (tVar 1) (tCons (tCal spAny (tCons (tVar 1) (tCons (tVar 2) tNil))) tNil))) rfl sc_law.nd (pi_range1 rfl g2 (pa_cons pe_int pa_nil)) (blkOk_by (N := N_law) (sc := defScope s_law) (by decide +kernel))
        (fun _ _ _ _ _ => pg_name (i := 7) sc_law.nd rfl (.inl rfl)) (fun _ _ _ _ _ => pts_nil) (fun _ _ _ _ _ => pe_cal Fx hr rfl (pa_cons (pv 1) (pa_cons (pe_cal An hr rfl (pa_cons (pv 1) (pa_cons (pv 2) pa_nil))) pa_nil)))) (pe_lst (pa_cons (pe_tup pa_nil) pa_nil))))
    (pss_cons (ps_expr (pe_bm PySem.F.plainAttrs_list PySem.F.slot_list_append PySem.F.type_list_append mt_append (pv 3) (pa_cons (pe_tup (pa_cons (pe_tup (pa_cons pe_str (pa_cons (pe_tup (pa_cons (pe_tup (pa_cons pe_str pa_nil)) (pa_cons (pe_tup (pa_cons pe_str pa_nil)) pa_nil))) (pa_cons (pe_tup (pa_cons (pe_tup (pa_cons pe_str (pa_cons (pe_tup (pa_cons pe_str (pa_cons pe_int pa_nil))) pa_nil))) pa_nil)) pa_nil)))) (pa_cons (pe_tup (pa_cons pe_str (pa_cons (pe_tup (pa_cons pe_str (pa_cons pe_int pa_nil))) pa_nil))) pa_nil))) pa_nil)))
    (pss_cons (ps_set (i := 4) sc_law.nd rfl (.inl rfl) (pe_tup (pa_cons (pe_tup (pa_cons pe_str (pa_cons (pe_tup (pa_cons pe_str (pa_cons pe_int pa_nil))) (pa_cons (pe_tup (pa_cons (pe_tup (pa_cons pe_str pa_nil)) pa_nil)) (pa_cons (pe_tup pa_nil) pa_nil))))) pa_nil)))
    (pss_cons (ps_expr (pe_bm PySem.F.plainAttrs_list PySem.F.slot_list_append PySem.F.type_list_append mt_append (pv 3) (pa_cons (pe_tup (pa_cons (pe_tup (pa_cons pe_str (pa_cons (pe_tup (pa_cons (pe_tup (pa_cons pe_str (pa_cons (pe_tup (pa_cons (pe_tup (pa_cons pe_str pa_nil)) pa_nil)) (pa_cons (pv 4) pa_nil)))) (pa_cons (pe_tup (pa_cons pe_str pa_nil)) pa_nil))) (pa_cons (pe_tup pa_nil) pa_nil)))) pa_nil)) pa_nil)))
    (pss_cons (ps_set (i := 5) sc_law.nd rfl (.inl rfl) (pe_tup (pa_cons (pe_tup (pa_cons pe_str (pa_cons (pe_tup (pa_cons (pe_tup (pa_cons pe_str pa_nil)) pa_nil)) (pa_cons (pe_tup (pa_cons (pe_tup (pa_cons pe_str pa_nil)) pa_nil)) pa_nil)))) pa_nil)))
    (pss_cons (ps_expr (pe_bm PySem.F.plainAttrs_list PySem.F.slot_list_append PySem.F.type_list_append mt_append (pv 3) (pa_cons (pe_tup (pa_cons (pe_tup (pa_cons pe_str (pa_cons (pv 5) (pa_cons (pe_tup (pa_cons (pe_tup (pa_cons pe_str (pa_cons (pe_tup (pa_cons pe_str (pa_cons pe_int pa_nil))) pa_nil))) pa_nil)) pa_nil)))) pa_nil)) pa_nil)))
    (pss_cons (ps_set (i := 6) sc_law.nd rfl (.inl rfl) (pe_callB (cr_repr hgd) (by rfl) g1 (by decide +kernel) (pa_cons (pe_tup (pa_cons (pv 2) (pa_cons (pv 3) pa_nil))) pa_nil)))
    (pss_cons (ps_if (pt_cmpR (op_ne0L hr.units0) (pe_lc (own := [("_law_program_here", 8)]) (g := gName 8) (tt := tNot (tB (tCal (spRight K) (tCons (tVar 1) (tCons (tVar 8) (tCons (tVar 2) tNil)))))) (te := tVar 8) rfl sc_law.nd (pi_list (pv 3)) (blkOk_by (N := N_law) (sc := defScope s_law) (by decide +kernel))
        (fun _ _ _ _ _ => pg_name (i := 8) sc_law.nd rfl (.inl rfl)) (fun _ _ _ _ _ => pts_one (pt_not (pt_val (pe_calG Fr hgd hr rfl gr kr Br (pa_cons (pv 1) (pa_cons (pv 8) (pa_cons (pv 2) pa_nil))))))) (fun _ _ _ _ _ => pv 8)) (pe_lst pa_nil) (nomark _)) (pss_one (ps_ret pe_bl)) pss_nil)
    (pss_one (ps_ret (pe_cmpR op_eq (pe_callB (cr_repr hgd) (by rfl) g1 (by decide +kernel) (pa_cons (pe_tup (pa_cons (pv 2) (pa_cons (pv 3) pa_nil))) pa_nil)) (pv 6) (nomark _))))))))))))), ?_⟩
  refine ⟨_, rfl, a0, ns, rfl, hL, fun H1 fd cl s1 n1 n2 f1 => ?_⟩
  refine ⟨_, rfl, fd, cl, rfl, f1, fun H2 sc S b2 f2 hS hO => ?_⟩
  refine ⟨4, rfl, by decide, by decide, fun D nD => ?_⟩
  have Df : D ≠ fd := f2.none nD
  have Dc : D ≠ cl := f2.none2 nD
  refine lc_it (walk_rng (n := (4 : Int).toNat)) (fun j H' => ∃ ps vs, LwS H2 fd cl D S.m H' ps vs ∧ ps.length = j) ⟨[], [], ⟨Same.but (same_upd nD), f2.same (same_upd nD), upd_same, rfl, fun p hp => by cases hp⟩, rfl⟩ (fun _ _ _ _ => trivial) (fun j x H3 H4 hj ⟨ps, vs, h3, hl⟩ hY => ?_) (fun H3 ⟨ps, vs, h3, hl⟩ => ?_)
  · obtain ⟨e4, rfl⟩ := hY
    subst e4
    have hs3 := hS.but f2 h3.b
    have hn1 := hO.n1
    have hm0 := hO.m0
    have hm1 := hO.m1
    have hj4 : j < 4 := hj
    refine ⟨rfl, tyes ⟨_, rfl, _, rfl, _, rfl, fd, cl, sc, S.names, S.m, rfl, h3.f, hs3.sn, hO.n0, by omega, hO.nx, by omega, by omega, fun H5 v p b5 f5 hp hc hd ho => ⟨fd, cl, p, v, S.m, rfl, f5, hp, by omega, by omega, ho, fun H6 v' p' b6 f6 hp' e1 e2 ho' => ?_⟩⟩⟩
    have h6 := h3.but (b5.trans b6) f6
    refine ⟨_, h6.l, by rw [IsPrs.length h6.p, hl, sizeLine_eq]; omega, ps ++ [p'], _, h6.add nD Df Dc (Same.refl _) hp' ⟨by omega, by omega, ho'⟩, by rw [List.length_append, hl]; rfl⟩
  · have hl4 : ps.length = 4 := hl
    refine ⟨Nat.zero_le _, fun t0 nt => ?_⟩
    refine ⟨by show 1 ≤ sizeLine; decide, fun l2 nl => ?_⟩
    have s34 := Same.trans (same_upd (o := .tup []) nt) (same_upd (o := .lst [.ref t0]) nl)
    have ht0 : IsPr (upd (upd H3 t0 (.tup [])) l2 (.lst [.ref t0])) [] (.ref t0) := ⟨t0, [], rfl, same_upd nl _ _ upd_same, rfl⟩
    have hl2 : upd (upd H3 t0 (.tup [])) l2 (.lst [.ref t0]) l2 = some (.lst [.ref t0]) := upd_same
    generalize upd (upd H3 t0 (.tup [])) l2 (.lst [.ref t0]) = H4 at s34 ht0 hl2
    have h4 := h3.same s34
    have hvl : vs.length = 4 := by rw [IsPrs.length h3.p, hl4]
    refine ⟨D, l2, vs, [.ref t0], rfl, rfl, h4.l, hl2, by rw [hvl, sizeLine_eq]; show 4 + 1 ≤ _; decide, fun L nL nsys => ?_⟩
    have Lf : L ≠ fd := h4.f.none nL
    have Lc : L ≠ cl := h4.f.none2 nL
    have nL2 : H2 L = none := by
      cases e : H2 L with
      | none => rfl
      | some o =>
        rw [h4.b _ _ e Lf] at nL
        cases nL
    have sL := same_upd (o := .lst (vs ++ [.ref t0])) nL
    have h5 : LwS H2 fd cl L S.m (upd H4 L (.lst (vs ++ [.ref t0]))) (ps ++ [[]]) (vs ++ [.ref t0]) := ⟨h4.b.trans (Same.but sL), h4.f.same sL, upd_same, (IsPrs.append (IsPrs.one ht0) h4.p).mono (Same.tle sL), fun q hq => by
      rcases List.mem_append.mp hq with z | z
      · exact h4.o q z
      · rw [List.mem_singleton.mp z]; exact ok_lp0 _⟩
    have hql : (ps ++ [[]]).length = 5 := by rw [List.length_append, hl4]; rfl
    show tSeq _ _ _ [some (.ref a0), some (.ref fd), some (.ref sc), some (.ref L), none, none, none, none, none] (upd H4 L (.lst (vs ++ [.ref t0])))
    generalize upd H4 L (.lst (vs ++ [.ref t0])) = H5 at h5
    generalize vs ++ [V.ref t0] = us at h5
    generalize ps ++ [[]] = qs at h5 hql
    have hul : us.length = 5 := by rw [IsPrs.length h5.p, hql]
    -- three more
    refine r_seq ?_
    refine ⟨.ref L, rfl, .inl ⟨rfl, _, SqL.of h5.l⟩, r_arg (Bd.go (bd_p2 (bd_inner (bd_p2 bd_retry bd_out) (bd_p1 (bd_tell bd_num))) (bd_tell bd_num)) fun H6 v6 s6 hp6 => ?_)⟩
    refine ⟨L, us, v6, rfl, rfl, (h5.same s6).l, by rw [hul, sizeLine_eq]; decide, ?_⟩
    have h7 := h5.add nL2 Lf Lc s6 hp6 (ok_lp1 _)
    show tSeq _ _ _ [some (.ref a0), some (.ref fd), some (.ref sc), some (.ref L), none, none, none, none, none] (upd H6 L (.lst (us ++ [v6])))
    generalize upd H6 L (.lst (us ++ [v6])) = H7 at h7
    generalize hu6 : us ++ [v6] = us6 at h7
    generalize hq6 : qs ++ [lp1] = qs6 at h7
    have hul6 : us6.length = 6 := by rw [← hu6, List.length_append, hul]; rfl
    have hql6 : qs6.length = 6 := by rw [← hq6, List.length_append, hql]; rfl
    refine r_seq (r_asg (Bd.go (bd_p1 (bd_ite bd_num (bd_p1 bd_retry) bd_p0)) fun H8 vn s8 hn8 => ?_))
    show tSeq _ _ _ [some (.ref a0), some (.ref fd), some (.ref sc), some (.ref L), some vn, none, none, none, none] H8
    have h8 := h7.same s8
    refine r_seq ?_
    refine ⟨.ref L, rfl, .inl ⟨rfl, _, SqL.of h8.l⟩, r_arg (Bd.go (bd_p1 (bd_either (bd_p2 (bd_either (bd_p1 bd_retry) (bd_var (v := vn) rfl hn8)) bd_out) bd_p0)) fun H9 v9 s9 hp9 => ?_)⟩
    refine ⟨L, us6, v9, rfl, rfl, (h8.same s9).l, by rw [hul6, sizeLine_eq]; decide, ?_⟩
    have h10 := h8.add nL2 Lf Lc s9 hp9 (ok_lp2 _)
    show tSeq _ _ _ [some (.ref a0), some (.ref fd), some (.ref sc), some (.ref L), some vn, none, none, none, none] (upd H9 L (.lst (us6 ++ [v9])))
    generalize upd H9 L (.lst (us6 ++ [v9])) = H10 at h10
    generalize hu7 : us6 ++ [v9] = us7 at h10
    generalize hq7 : qs6 ++ [lp2] = qs7 at h10
    have hul7 : us7.length = 7 := by rw [← hu7, List.length_append, hul6]; rfl
    have hql7 : qs7.length = 7 := by rw [← hq7, List.length_append, hql6]; rfl
    refine r_seq (r_asg (Bd.go (bd_p1 (bd_inner (bd_p1 bd_out) (bd_p1 bd_out))) fun H11 vi s11 hn11 => ?_))
    show tSeq _ _ _ [some (.ref a0), some (.ref fd), some (.ref sc), some (.ref L), some vn, some vi, none, none, none] H11
    have h11 := h10.same s11
    refine r_seq ?_
    refine ⟨.ref L, rfl, .inl ⟨rfl, _, SqL.of h11.l⟩, r_arg (Bd.go (bd_p1 (bd_inner (bd_var (v := vi) rfl hn11) (bd_p1 (bd_tell bd_num)))) fun H12 v12 s12 hp12 => ?_)⟩
    refine ⟨L, us7, v12, rfl, rfl, (h11.same s12).l, by rw [hul7, sizeLine_eq]; decide, ?_⟩
    have h13 := h11.add nL2 Lf Lc s12 hp12 (ok_lp3 _)
    dsimp only
    generalize upd H12 L (.lst (us7 ++ [v12])) = H13 at h13
    generalize hu8 : us7 ++ [v12] = us8 at h13
    generalize hq8 : qs7 ++ [lp3] = qs8 at h13
    have hul8 : us8.length = 8 := by rw [← hu8, List.length_append, hul7]; rfl
    have hql8 : qs8.length = 8 := by rw [← hq8, List.length_append, hql7]; rfl
    -- what repr tells
    have hm1 := hO.m1
    have hz : Sz (.tuple [dSc S, .list (dPs qs8)]) 60000 22 := (sz_tup (sz_cons ((sz_sc hO).mono (Nat.le_refl _) (show 3 ≤ 21 by decide)) (sz_cons (sz_lst (sz_prs (by omega) h13.o)) (sz_nil.mono (Nat.le_refl _) (Nat.zero_le _))))).mono (by rw [hql8]; decide) (Nat.le_refl _)
    have hzu : (A.deeper (envOfC "law" (defScope s_law) s0.heap.objs.size f cdv)).units + ((PyData.tuple [dSc S, .list (dPs qs8)]).depth + 1) < cLine := by have := hr.un; have := hz.e; omega
    have dq : ∀ (H' : Hp) (tt : Addr), LwS H2 fd cl L S.m H' qs8 us8 → H' tt = some (.tup [.ref sc, .ref L]) → Dq K H' (.ref tt) (.tuple [dSc S, .list (dPs qs8)]) := fun H' tt h' ht =>
      .tup (SqT.of ht) (.cons (dq_sc (hS.but f2 h'.b)) (.cons (.lst (SqL.of h'.l) nsys (dq_prs h'.p)) .nil))
    refine r_seq (r_asg ?_)
    refine ⟨_, rfl, _, rfl, by show 2 ≤ sizeLine; decide, fun tt ntt => ?_⟩
    have htt : upd H13 tt (.tup [.ref sc, .ref L]) tt = some (.tup [.ref sc, .ref L]) := upd_same
    have h14 := h13.same (same_upd (o := .tup [.ref sc, .ref L]) ntt)
    refine ⟨tt, _, rfl, dq _ _ h14 htt, hz.a, hzu, hz.fits (by decide), ?_⟩
    generalize hT : (PyData.tuple [dSc S, .list (dPs qs8)]).shown = T
    show tSeq _ _ _ [some (.ref a0), some (.ref fd), some (.ref sc), some (.ref L), some vn, some vi, some (.str T), none, none] (upd H13 tt (.tup [.ref sc, .ref L]))
    generalize upd H13 tt (.tup [.ref sc, .ref L]) = H14 at h14
    -- each is right
    refine r_seq ?_
    refine ⟨.ref L, rfl, L, rfl, ⟨_, SqL.of h14.l⟩, fun D2 nD2 => ?_⟩
    have D2f : D2 ≠ fd := h14.f.none nD2
    have D2c : D2 ≠ cl := h14.f.none2 nD2
    have D2L : D2 ≠ L := fun z => by rw [z, h14.l] at nD2; cases nD2
    refine lc_it (walk_list (K := K) (xs := us8)) (fun j H' => LwS H2 fd cl L S.m H' qs8 us8 ∧ H' D2 = some (.lst [])) ⟨h14.same (same_upd nD2), upd_same⟩ (fun j H' _ ⟨h', _⟩ => SqL.of h'.l) (fun j x H15 H16 hj ⟨h15, hD⟩ hY => ?_) (fun H15 ⟨h15, hD⟩ => ?_)
    · obtain ⟨e16, hx⟩ := hY
      subst e16
      obtain ⟨p, hp, hpx⟩ := IsPrs.at h15.p hx
      obtain ⟨o1, o2, o3⟩ := h15.o p (List.mem_of_getElem? hp)
      refine ⟨rfl, ?_⟩
      refine ⟨_, rfl, _, rfl, _, rfl, fd, cl, sc, H2, S, p, x, rfl, h15.f, hpx, hS.but f2 h15.b, hO, o1, o2, o3, fun H17 b17 f17 => ⟨_, rfl, ?_⟩⟩
      refine ⟨h15.but b17 f17, b17 _ _ hD D2f⟩
    · refine ⟨Nat.zero_le _, fun D3 nD3 => ⟨D2, D3, [], rfl, rfl, SqL.of (same_upd nD3 _ _ hD), SqL.of upd_same, _, rfl, ?_⟩⟩
      refine ite2 (fun c => by simp at c) (fun _ => ?_)
      have h16 := h15.same (same_upd (o := .lst []) nD3)
      dsimp only [tNext]
      generalize upd H15 D3 (.lst []) = H16 at h16
      refine ⟨_, rfl, _, rfl, by show 2 ≤ sizeLine; decide, fun t2 nt2 => ?_⟩
      have ht2 : upd H16 t2 (.tup [.ref sc, .ref L]) t2 = some (.tup [.ref sc, .ref L]) := upd_same
      have h17 := h16.same (same_upd (o := .tup [.ref sc, .ref L]) nt2)
      refine ⟨t2, _, rfl, dq _ _ h17 ht2, hz.a, hzu, hz.fits (by decide), ?_⟩
      rw [hT]
      refine ⟨_, rfl, rfl, ?_⟩
      have := q (upd H16 t2 (.tup [.ref sc, .ref L]))
      simpa using this
end
end Pk
-- ## PkFacts
set_option Elab.async false
set_option linter.all false
set_option maxRecDepth 100000
set_option maxHeartbeats 4000000
namespace Pk
open PySem PySem.Spec PyProof.Rows L2
theorem emptyT_ok {K : PySem.W.Frag} {a : Addr} (h : emptyT K a = true) (H : Hp) : TupD K H a [] := by
  unfold emptyT at h
  cases q : K.lookup a with
  | none => rw [q] at h; cases h
  | some o =>
    obtain ⟨oc, od, dt, osl⟩ := o
    rw [q] at h
    cases oc with
    | type c =>
      cases od with
      | none =>
        cases dt with
        | seq its n =>
          obtain ⟨h1, h2⟩ := He.ba h
          have e1 : c = "tuple" := of_decide_eq_true h1
          have e2 : its = #[] := Array.isEmpty_iff.mp h2
          subst e1 e2
          exact .inr ⟨_, #[], n, q, rfl, rfl, rfl, Nat.zero_le _, .nil⟩
        | _ => cases h
      | some d => cases dt <;> cases h
    | _ => cases od <;> cases dt <;> cases h
section
variable {w : World} {K : PySem.W.Frag} {h : Heap} {mg : Str → Option Value}
/-- a def of the top -/
theorem fdTop (X : K.In h) (G : h.Ns mainGlobals mg) (c : He.SaysD fa fn K) (i j : Nat) {x : Str} {st : Stmt} {ps : List Str} (hd : fn[i]? = some ⟨(x, none), x, x, defArgs st, defBody st, defScope st, [], []⟩) (hf : fa[j]? = some (.glo x))
    (hb : ∀ (kV doc pm : Value) (an : Option Addr) (cdv ct : Value) (us : List Value), us.length = ps.length → bindArgs (PySem.W.fnOf x x (defArgs st) (defBody st) (defScope st) .none kV doc pm an cdv ct) ⟨us, []⟩ = pure (ps.zip us)) : Fd K mg x st ps := by
  obtain ⟨fd, F⟩ := c.def_ i hd
  exact ⟨_, fd, He.glo_ok X G (c.fact j hf), F, FunD.bindsN F hb⟩
/-- a method -/
theorem mdTop (c : He.SaysD fa fn K) (i j : Nat) {m qual : Str} {st : Stmt} {ps : List Str} (hd : fn[i]? = some ⟨("Walk", some m), m, qual, defArgs st, defBody st, defScope st, [], []⟩) (hf : fa[j]? = some (.meth "Walk" m))
    (hb : ∀ (kV doc pm : Value) (an : Option Addr) (cdv ct : Value) (us : List Value), us.length = ps.length → bindArgs (PySem.W.fnOf m qual (defArgs st) (defBody st) (defScope st) .none kV doc pm an cdv ct) ⟨us, []⟩ = pure (ps.zip us)) : MD K (He.ga K "Walk") m qual st ps := by
  obtain ⟨fd, F⟩ := c.def_ i hd
  exact ⟨_, fd, He.meth_ok (c.fact j hf), F, FunD.bindsN F hb⟩
/-- a table -/
theorem tabTop {a : Addr} {es : Array DictEntry} {n : Nat} (D : KDict K w a es n) {kvs : List (Str × He.Dv)} (hv : He.valsB K a kvs = true) {x : Str} {d : He.Dv} (hm : (x, d) ∈ kvs) : KDct K w a x (d.v K) := by
  obtain ⟨u, e, r⟩ := He.valsB_ok hv hm
  exact ⟨es, n, u, D.at_, D.lit, e, r⟩

theorem f_has_own (X : K.In h) (G : h.Ns mainGlobals mg) (c : He.SaysD fa fn K) : Fd K mg "has_own" s_has_own ["program", "word", "around"] :=
  fdTop X G c 0 0 (x := "has_own") (st := s_has_own) (ps := ["program", "word", "around"]) rfl rfl (fun _ _ _ _ _ _ us hl => match us, hl with | [_, _, _], _ => rfl)
theorem f_steps_for (X : K.In h) (G : h.Ns mainGlobals mg) (c : He.SaysD fa fn K) : Fd K mg "steps_for" s_steps_for ["step"] :=
  fdTop X G c 1 1 (x := "steps_for") (st := s_steps_for) (ps := ["step"]) rfl rfl (fun _ _ _ _ _ _ us hl => match us, hl with | [_], _ => rfl)
theorem f_plainer (X : K.In h) (G : h.Ns mainGlobals mg) (c : He.SaysD fa fn K) : Fd K mg "plainer" s_plainer ["program"] :=
  fdTop X G c 2 2 (x := "plainer") (st := s_plainer) (ps := ["program"]) rfl rfl (fun _ _ _ _ _ _ us hl => match us, hl with | [_], _ => rfl)
theorem f_reckoned (X : K.In h) (G : h.Ns mainGlobals mg) (c : He.SaysD fa fn K) : Fd K mg "reckoned" s_reckoned ["amount", "given"] :=
  fdTop X G c 3 3 (x := "reckoned") (st := s_reckoned) (ps := ["amount", "given"]) rfl rfl (fun _ _ _ _ _ _ us hl => match us, hl with | [_, _], _ => rfl)
theorem f_parts_of (X : K.In h) (G : h.Ns mainGlobals mg) (c : He.SaysD fa fn K) : Fd K mg "parts_of" s_parts_of ["step", "wanted"] :=
  fdTop X G c 4 4 (x := "parts_of") (st := s_parts_of) (ps := ["step", "wanted"]) rfl rfl (fun _ _ _ _ _ _ us hl => match us, hl with | [_, _], _ => rfl)
theorem f_all_steps (X : K.In h) (G : h.Ns mainGlobals mg) (c : He.SaysD fa fn K) : Fd K mg "all_steps" s_all_steps ["program"] :=
  fdTop X G c 5 5 (x := "all_steps") (st := s_all_steps) (ps := ["program"]) rfl rfl (fun _ _ _ _ _ _ us hl => match us, hl with | [_], _ => rfl)
theorem f_depth (X : K.In h) (G : h.Ns mainGlobals mg) (c : He.SaysD fa fn K) : Fd K mg "depth" s_depth ["program"] :=
  fdTop X G c 6 6 (x := "depth") (st := s_depth) (ps := ["program"]) rfl rfl (fun _ _ _ _ _ _ us hl => match us, hl with | [_], _ => rfl)
theorem f_do_read (X : K.In h) (G : h.Ns mainGlobals mg) (c : He.SaysD fa fn K) : Fd K mg "do_read" s_do_read ["walk", "rest"] :=
  fdTop X G c 8 8 (x := "do_read") (st := s_do_read) (ps := ["walk", "rest"]) rfl rfl (fun _ _ _ _ _ _ us hl => match us, hl with | [_, _], _ => rfl)
theorem f_do_write (X : K.In h) (G : h.Ns mainGlobals mg) (c : He.SaysD fa fn K) : Fd K mg "do_write" s_do_write ["walk", "rest"] :=
  fdTop X G c 9 9 (x := "do_write") (st := s_do_write) (ps := ["walk", "rest"]) rfl rfl (fun _ _ _ _ _ _ us hl => match us, hl with | [_, _], _ => rfl)
theorem f_do_let (X : K.In h) (G : h.Ns mainGlobals mg) (c : He.SaysD fa fn K) : Fd K mg "do_let" s_do_let ["walk", "rest"] :=
  fdTop X G c 10 10 (x := "do_let") (st := s_do_let) (ps := ["walk", "rest"]) rfl rfl (fun _ _ _ _ _ _ us hl => match us, hl with | [_, _], _ => rfl)
theorem f_do_tell (X : K.In h) (G : h.Ns mainGlobals mg) (c : He.SaysD fa fn K) : Fd K mg "do_tell" s_do_tell ["walk", "rest"] :=
  fdTop X G c 11 11 (x := "do_tell") (st := s_do_tell) (ps := ["walk", "rest"]) rfl rfl (fun _ _ _ _ _ _ us hl => match us, hl with | [_, _], _ => rfl)
theorem f_do_if (X : K.In h) (G : h.Ns mainGlobals mg) (c : He.SaysD fa fn K) : Fd K mg "do_if" s_do_if ["walk", "rest"] :=
  fdTop X G c 12 12 (x := "do_if") (st := s_do_if) (ps := ["walk", "rest"]) rfl rfl (fun _ _ _ _ _ _ us hl => match us, hl with | [_, _], _ => rfl)
theorem f_do_inner (X : K.In h) (G : h.Ns mainGlobals mg) (c : He.SaysD fa fn K) : Fd K mg "do_inner" s_do_inner ["walk", "rest"] :=
  fdTop X G c 13 13 (x := "do_inner") (st := s_do_inner) (ps := ["walk", "rest"]) rfl rfl (fun _ _ _ _ _ _ us hl => match us, hl with | [_, _], _ => rfl)
theorem f_do_either (X : K.In h) (G : h.Ns mainGlobals mg) (c : He.SaysD fa fn K) : Fd K mg "do_either" s_do_either ["walk", "rest"] :=
  fdTop X G c 14 14 (x := "do_either") (st := s_do_either) (ps := ["walk", "rest"]) rfl rfl (fun _ _ _ _ _ _ us hl => match us, hl with | [_, _], _ => rfl)
theorem f_do_out (X : K.In h) (G : h.Ns mainGlobals mg) (c : He.SaysD fa fn K) : Fd K mg "do_out" s_do_out ["walk", "rest"] :=
  fdTop X G c 15 15 (x := "do_out") (st := s_do_out) (ps := ["walk", "rest"]) rfl rfl (fun _ _ _ _ _ _ us hl => match us, hl with | [_, _], _ => rfl)
theorem f_do_retry (X : K.In h) (G : h.Ns mainGlobals mg) (c : He.SaysD fa fn K) : Fd K mg "do_retry" s_do_retry ["walk", "rest"] :=
  fdTop X G c 16 16 (x := "do_retry") (st := s_do_retry) (ps := ["walk", "rest"]) rfl rfl (fun _ _ _ _ _ _ us hl => match us, hl with | [_, _], _ => rfl)
theorem f_law_feed (X : K.In h) (G : h.Ns mainGlobals mg) (c : He.SaysD fa fn K) : Fd K mg "_law_feed" s_law_feed ["_law_script"] :=
  fdTop X G c 18 18 (x := "_law_feed") (st := s_law_feed) (ps := ["_law_script"]) rfl rfl (fun _ _ _ _ _ _ us hl => match us, hl with | [_], _ => rfl)
theorem f_law_draw (X : K.In h) (G : h.Ns mainGlobals mg) (c : He.SaysD fa fn K) : Fd K mg "_law_draw" s_law_draw ["_law_feed_here", "_law_many"] :=
  fdTop X G c 19 19 (x := "_law_draw") (st := s_law_draw) (ps := ["_law_feed_here", "_law_many"]) rfl rfl (fun _ _ _ _ _ _ us hl => match us, hl with | [_, _], _ => rfl)
theorem f_law_names (X : K.In h) (G : h.Ns mainGlobals mg) (c : He.SaysD fa fn K) : Fd K mg "_law_names" s_law_names ["_law_feed_here", "_law_many"] :=
  fdTop X G c 20 20 (x := "_law_names") (st := s_law_names) (ps := ["_law_feed_here", "_law_many"]) rfl rfl (fun _ _ _ _ _ _ us hl => match us, hl with | [_, _], _ => rfl)
theorem f_law_number (X : K.In h) (G : h.Ns mainGlobals mg) (c : He.SaysD fa fn K) : Fd K mg "_law_number" s_law_number ["_law_feed_here"] :=
  fdTop X G c 21 21 (x := "_law_number") (st := s_law_number) (ps := ["_law_feed_here"]) rfl rfl (fun _ _ _ _ _ _ us hl => match us, hl with | [_], _ => rfl)
theorem f_law_sum (X : K.In h) (G : h.Ns mainGlobals mg) (c : He.SaysD fa fn K) : Fd K mg "_law_sum" s_law_sum ["_law_feed_here", "_law_names_here", "_law_within"] :=
  fdTop X G c 22 22 (x := "_law_sum") (st := s_law_sum) (ps := ["_law_feed_here", "_law_names_here", "_law_within"]) rfl rfl (fun _ _ _ _ _ _ us hl => match us, hl with | [_, _, _], _ => rfl)
theorem f_law_step (X : K.In h) (G : h.Ns mainGlobals mg) (c : He.SaysD fa fn K) : Fd K mg "_law_step" s_law_step ["_law_feed_here", "_law_scene_here", "_law_room", "_law_depths", "_law_more"] :=
  fdTop X G c 23 23 (x := "_law_step") (st := s_law_step) (ps := ["_law_feed_here", "_law_scene_here", "_law_room", "_law_depths", "_law_more"]) rfl rfl (fun _ _ _ _ _ _ us hl => match us, hl with | [_, _, _, _, _], _ => rfl)
theorem f_law_program (X : K.In h) (G : h.Ns mainGlobals mg) (c : He.SaysD fa fn K) : Fd K mg "_law_program" s_law_program ["_law_feed_here", "_law_scene_here", "_law_room", "_law_depths", "_law_more"] :=
  fdTop X G c 24 24 (x := "_law_program") (st := s_law_program) (ps := ["_law_feed_here", "_law_scene_here", "_law_room", "_law_depths", "_law_more"]) rfl rfl (fun _ _ _ _ _ _ us hl => match us, hl with | [_, _, _, _, _], _ => rfl)
theorem f_law_scene (X : K.In h) (G : h.Ns mainGlobals mg) (c : He.SaysD fa fn K) : Fd K mg "_law_scene" s_law_scene ["_law_feed_here"] :=
  fdTop X G c 25 25 (x := "_law_scene") (st := s_law_scene) (ps := ["_law_feed_here"]) rfl rfl (fun _ _ _ _ _ _ us hl => match us, hl with | [_], _ => rfl)
theorem f_law_any (X : K.In h) (G : h.Ns mainGlobals mg) (c : He.SaysD fa fn K) : Fd K mg "_law_any" s_law_any ["_law_feed_here", "_law_scene_here"] :=
  fdTop X G c 26 26 (x := "_law_any") (st := s_law_any) (ps := ["_law_feed_here", "_law_scene_here"]) rfl rfl (fun _ _ _ _ _ _ us hl => match us, hl with | [_, _], _ => rfl)
theorem f_law_own (X : K.In h) (G : h.Ns mainGlobals mg) (c : He.SaysD fa fn K) : Fd K mg "_law_own" s_law_own ["_law_program_here", "_law_word", "_law_around"] :=
  fdTop X G c 27 27 (x := "_law_own") (st := s_law_own) (ps := ["_law_program_here", "_law_word", "_law_around"]) rfl rfl (fun _ _ _ _ _ _ us hl => match us, hl with | [_, _, _], _ => rfl)
theorem f_law_place (X : K.In h) (G : h.Ns mainGlobals mg) (c : He.SaysD fa fn K) : Fd K mg "_law_place" s_law_place ["_law_step_now"] :=
  fdTop X G c 28 28 (x := "_law_place") (st := s_law_place) (ps := ["_law_step_now"]) rfl rfl (fun _ _ _ _ _ _ us hl => match us, hl with | [_], _ => rfl)
theorem f_law_turned (X : K.In h) (G : h.Ns mainGlobals mg) (c : He.SaysD fa fn K) : Fd K mg "_law_turned" s_law_turned ["_law_program_here"] :=
  fdTop X G c 29 29 (x := "_law_turned") (st := s_law_turned) (ps := ["_law_program_here"]) rfl rfl (fun _ _ _ _ _ _ us hl => match us, hl with | [_], _ => rfl)
theorem f_law_due (X : K.In h) (G : h.Ns mainGlobals mg) (c : He.SaysD fa fn K) : Fd K mg "_law_due" s_law_due ["_law_program_here"] :=
  fdTop X G c 30 30 (x := "_law_due") (st := s_law_due) (ps := ["_law_program_here"]) rfl rfl (fun _ _ _ _ _ _ us hl => match us, hl with | [_], _ => rfl)
theorem f_law_count (X : K.In h) (G : h.Ns mainGlobals mg) (c : He.SaysD fa fn K) : Fd K mg "_law_count" s_law_count ["_law_program_here"] :=
  fdTop X G c 31 31 (x := "_law_count") (st := s_law_count) (ps := ["_law_program_here"]) rfl rfl (fun _ _ _ _ _ _ us hl => match us, hl with | [_], _ => rfl)
theorem f_law_fixed_ifs (X : K.In h) (G : h.Ns mainGlobals mg) (c : He.SaysD fa fn K) : Fd K mg "_law_fixed_ifs" s_law_fixed_ifs ["_law_feed_here", "_law_program_here"] :=
  fdTop X G c 32 32 (x := "_law_fixed_ifs") (st := s_law_fixed_ifs) (ps := ["_law_feed_here", "_law_program_here"]) rfl rfl (fun _ _ _ _ _ _ us hl => match us, hl with | [_, _], _ => rfl)
theorem f_law_right (X : K.In h) (G : h.Ns mainGlobals mg) (c : He.SaysD fa fn K) : Fd K mg "_law_right" s_law_right ["_law_feed_here", "_law_program_here", "_law_scene_here"] :=
  fdTop X G c 33 33 (x := "_law_right") (st := s_law_right) (ps := ["_law_feed_here", "_law_program_here", "_law_scene_here"]) rfl rfl (fun _ _ _ _ _ _ us hl => match us, hl with | [_, _, _], _ => rfl)
theorem f_law (X : K.In h) (G : h.Ns mainGlobals mg) (c : He.SaysD fa fn K) : Fd K mg "law" s_law ["_law_script"] :=
  fdTop X G c 34 34 (x := "law") (st := s_law) (ps := ["_law_script"]) rfl rfl (fun _ _ _ _ _ _ us hl => match us, hl with | [_], _ => rfl)
theorem m_kept (c : He.SaysD fa fn K) : MD K (He.ga K "Walk") "kept" "Walk.kept" sw_kept ["self"] :=
  mdTop c 36 57 (m := "kept") (qual := "Walk.kept") (st := sw_kept) (ps := ["self"]) rfl rfl (fun _ _ _ _ _ _ us hl => match us, hl with | [_], _ => rfl)
theorem m_back_to (c : He.SaysD fa fn K) : MD K (He.ga K "Walk") "back_to" "Walk.back_to" sw_back_to ["self", "kept"] :=
  mdTop c 37 58 (m := "back_to") (qual := "Walk.back_to") (st := sw_back_to) (ps := ["self", "kept"]) rfl rfl (fun _ _ _ _ _ _ us hl => match us, hl with | [_, _], _ => rfl)
theorem m_seen (c : He.SaysD fa fn K) : MD K (He.ga K "Walk") "seen" "Walk.seen" sw_seen ["self", "cell"] :=
  mdTop c 38 59 (m := "seen") (qual := "Walk.seen") (st := sw_seen) (ps := ["self", "cell"]) rfl rfl (fun _ _ _ _ _ _ us hl => match us, hl with | [_, _], _ => rfl)
theorem m_go (c : He.SaysD fa fn K) : MD K (He.ga K "Walk") "go" "Walk.go" sw_go ["self", "program"] :=
  mdTop c 39 60 (m := "go") (qual := "Walk.go") (st := sw_go) (ps := ["self", "program"]) rfl rfl (fun _ _ _ _ _ _ us hl => match us, hl with | [_, _], _ => rfl)
theorem n_any (X : K.In h) (G : h.Ns mainGlobals mg) (c : He.SaysD fa fn K) : mg "any" = none := He.free_ok X G (c.fact 39 rfl)
theorem n_zip (X : K.In h) (G : h.Ns mainGlobals mg) (c : He.SaysD fa fn K) : mg "zip" = none := He.free_ok X G (c.fact 40 rfl)
theorem n_max (X : K.In h) (G : h.Ns mainGlobals mg) (c : He.SaysD fa fn K) : mg "max" = none := He.free_ok X G (c.fact 41 rfl)
theorem n_len (X : K.In h) (G : h.Ns mainGlobals mg) (c : He.SaysD fa fn K) : mg "len" = none := He.free_ok X G (c.fact 42 rfl)
theorem n_dict (X : K.In h) (G : h.Ns mainGlobals mg) (c : He.SaysD fa fn K) : mg "dict" = none := He.free_ok X G (c.fact 43 rfl)
theorem n_sorted (X : K.In h) (G : h.Ns mainGlobals mg) (c : He.SaysD fa fn K) : mg "sorted" = none := He.free_ok X G (c.fact 44 rfl)
theorem n_tuple (X : K.In h) (G : h.Ns mainGlobals mg) (c : He.SaysD fa fn K) : mg "tuple" = none := He.free_ok X G (c.fact 45 rfl)
theorem n_list (X : K.In h) (G : h.Ns mainGlobals mg) (c : He.SaysD fa fn K) : mg "list" = none := He.free_ok X G (c.fact 46 rfl)
theorem n_range (X : K.In h) (G : h.Ns mainGlobals mg) (c : He.SaysD fa fn K) : mg "range" = none := He.free_ok X G (c.fact 47 rfl)
theorem n_set (X : K.In h) (G : h.Ns mainGlobals mg) (c : He.SaysD fa fn K) : mg "set" = none := He.free_ok X G (c.fact 48 rfl)
theorem n_repr (X : K.In h) (G : h.Ns mainGlobals mg) (c : He.SaysD fa fn K) : mg "repr" = none := He.free_ok X G (c.fact 49 rfl)
theorem cWalk (c : He.SaysD fa fn K) : Cls K (He.ga K "Walk") := He.cls_ok (c.fact 50 rfl)
theorem kWalk (c : He.SaysD fa fn K) : Mk K (He.ga K "Walk") (He.ma K (He.ga K "Walk") "__init__") := He.mkr_ok (c.fact 51 rfl)
theorem gWalk (X : K.In h) (G : h.Ns mainGlobals mg) (c : He.SaysD fa fn K) : mg "Walk" = some (.ref (He.ga K "Walk")) := He.glo_ok X G (c.fact 35 rfl)
theorem aWalk (c : He.SaysD fa fn K) : ∀ x : Str, x ∈ walkAtt → NoAttr K (He.ga K "Walk") x := fun x hx => by
  simp only [walkAtt, List.mem_cons, List.not_mem_nil, or_false] at hx
  rcases hx with rfl | rfl | rfl | rfl | rfl
  · exact He.noat_ok (c.fact 52 rfl)
  · exact He.noat_ok (c.fact 53 rfl)
  · exact He.noat_ok (c.fact 54 rfl)
  · exact He.noat_ok (c.fact 55 rfl)
  · exact He.noat_ok (c.fact 56 rfl)
theorem t_PARTS (X : K.In h) (G : h.Ns mainGlobals mg) (c : He.SaysT fa fn ts w K) (e : He.valsB K (He.ga K "PARTS") pairsP = true) : HasTab K w mg "PARTS" kwN (fun k => .str (pWord k)) := by
  obtain ⟨es, n, D⟩ := c.tab 0 rfl
  refine ⟨He.ga K "PARTS", He.glo_ok X G (c.d.fact 38 rfl), fun i => ?_⟩
  cases i with
  | read => exact tabTop D e (x := "read") (d := .str "wc") (by simp [pairsP])
  | write => exact tabTop D e (x := "write") (d := .str "cs") (by simp [pairsP])
  | lt => exact tabTop D e (x := "let") (d := .str "ws") (by simp [pairsP])
  | tell => exact tabTop D e (x := "tell") (d := .str "s") (by simp [pairsP])
  | ite => exact tabTop D e (x := "if") (d := .str "spp") (by simp [pairsP])
  | inner => exact tabTop D e (x := "inner") (d := .str "pp") (by simp [pairsP])
  | out => exact tabTop D e (x := "out") (d := .str "") (by simp [pairsP])
  | either => exact tabTop D e (x := "either") (d := .str "pp") (by simp [pairsP])
  | retry => exact tabTop D e (x := "retry") (d := .str "") (by simp [pairsP])
theorem t_WORDS (X : K.In h) (G : h.Ns mainGlobals mg) (c : He.SaysT fa fn ts w K) (e : He.valsB K (He.ga K "WORDS") pairsW = true) : HasTab K w mg "WORDS" kwN (fun kk => .ref (He.ga K (dN kk))) := by
  obtain ⟨es, n, D⟩ := c.tab 1 rfl
  refine ⟨He.ga K "WORDS", He.glo_ok X G (c.d.fact 36 rfl), fun i => ?_⟩
  cases i with
  | read => exact tabTop D e (x := "read") (d := .glo "do_read") (by simp [pairsW])
  | write => exact tabTop D e (x := "write") (d := .glo "do_write") (by simp [pairsW])
  | lt => exact tabTop D e (x := "let") (d := .glo "do_let") (by simp [pairsW])
  | tell => exact tabTop D e (x := "tell") (d := .glo "do_tell") (by simp [pairsW])
  | ite => exact tabTop D e (x := "if") (d := .glo "do_if") (by simp [pairsW])
  | inner => exact tabTop D e (x := "inner") (d := .glo "do_inner") (by simp [pairsW])
  | out => exact tabTop D e (x := "out") (d := .glo "do_out") (by simp [pairsW])
  | either => exact tabTop D e (x := "either") (d := .glo "do_either") (by simp [pairsW])
  | retry => exact tabTop D e (x := "retry") (d := .glo "do_retry") (by simp [pairsW])
theorem t_LEFT (X : K.In h) (G : h.Ns mainGlobals mg) (c : He.SaysT fa fn ts w K) (e : He.valsB K (He.ga K "LEFT") pairsL = true) : HasTab K w mg "LEFT" leftN (fun l => .str (leftW l)) := by
  obtain ⟨es, n, D⟩ := c.tab 2 rfl
  refine ⟨He.ga K "LEFT", He.glo_ok X G (c.d.fact 37 rfl), fun i => ?_⟩
  cases i with
  | fin => exact tabTop D e (x := "end") (d := .str "ended") (by simp [pairsL])
  | out => exact tabTop D e (x := "out") (d := .str "dropped") (by simp [pairsL])
  | retry => exact tabTop D e (x := "retry") (d := .str "retries") (by simp [pairsL])
theorem gDo (X : K.In h) (G : h.Ns mainGlobals mg) (c : He.SaysD fa fn K) : ∀ kk, mg (dN kk) = some (.ref (He.ga K (dN kk))) := fun kk => by
  cases kk with
  | read => exact He.glo_ok X G (c.fact 8 rfl)
  | write => exact He.glo_ok X G (c.fact 9 rfl)
  | lt => exact He.glo_ok X G (c.fact 10 rfl)
  | tell => exact He.glo_ok X G (c.fact 11 rfl)
  | ite => exact He.glo_ok X G (c.fact 12 rfl)
  | inner => exact He.glo_ok X G (c.fact 13 rfl)
  | out => exact He.glo_ok X G (c.fact 15 rfl)
  | either => exact He.glo_ok X G (c.fact 14 rfl)
  | retry => exact He.glo_ok X G (c.fact 16 rfl)
theorem walkTop (X : K.In h) (G : h.Ns mainGlobals mg) (c : He.SaysT fa fn ts w K) (e : He.valsB K (He.ga K "WORDS") pairsW = true) : WalkTop K w mg (He.ga K "Walk") fun kk => He.ga K (dN kk) :=
  ⟨cWalk c.d, aWalk c.d, n_dict X G c.d, gDo X G c.d, t_WORDS X G c e, f_reckoned X G c.d, f_do_read X G c.d, f_do_write X G c.d, f_do_let X G c.d, f_do_tell X G c.d, f_do_if X G c.d, f_do_inner X G c.d, f_do_out X G c.d, f_do_either X G c.d, f_do_retry X G c.d, m_kept c.d, m_back_to c.d, m_seen c.d, m_go c.d⟩
theorem wkT {P : Program} {base : Heap} (X : K.In h) (G : h.Ns mainGlobals mg) (c : He.SaysT fa fn ts w K) (e1 : emptyT K (kwAt ("walked", none) "slots" K) = true) (e2 : He.valsB K (He.ga K "WORDS") pairsW = true) (e3 : He.valsB K (He.ga K "LEFT") pairsL = true) :
    ∃ f fd sl ds, mg "walked" = some (.ref f) ∧ PySem.W.keepIn K (.ref f) = true ∧ FnOk P w K mg base CX0 26 f fd ["program", "cells", "slots"] (spWalked K 8).up ∧ KBn K fd ["program", "cells", "slots"] 2 ["slots"] (fun us ws => us ++ ws) (fun vs zs => vs ++ zs) ∧
      Binds K fd ["program", "cells", "slots"] ds ∧ Vals [V.ref sl] ds ∧ ∀ H, TupD K H sl [] := by
  obtain ⟨fd, F⟩ := c.d.def_ 17 (d := d_walked) rfl
  obtain ⟨fdi, Fi⟩ := c.d.def_ 35 (d := dw_init) rfl
  have bi : Binds K fdi ["self", "cells", "slots"] [] := FunD.bindsN Fi (fun _ _ _ _ _ _ us hl => match us, hl with | [_, _, _], _ => rfl)
  have I := ok_winit (P := P) (w := w) (mg := mg) (base := base) (cWalk c.d) (aWalk c.d) (n_dict X G c.d) Fi
  have Go := ok_go (P := P) (base := base) (walkTop X G c e2) 8
  have Wk : FnOk P w K mg base CX0 26 _ fd ["program", "cells", "slots"] (spWalked K 8).up := ok_walked (k := 23) (cWalk c.d) (aWalk c.d) (gWalk X G c.d) (kWalk c.d) bi I F (t_LEFT X G c e3) (n_sorted X G c.d) (n_tuple X G c.d) Go
  obtain ⟨ds, hv, hb⟩ := FunD.binds0 (ps := ["program", "cells", "slots"]) F 2 (fun z => by cases z) rfl (fun D doc pm an cdv ct us ks h1 h2 => match us, ks, h1, h2 with | [_, _], [_], _, _ => ⟨_, _, _, _, _, _, rfl, rfl, rfl⟩)
  obtain ⟨mv, hk⟩ := FunD.kbinds0 (ps := ["program", "cells", "slots"]) F 2 ["slots"] [] (fun us _ ws => us ++ ws) (fun z => by cases z) (fun q hq => by cases hq) (fun r1 _ r3 => r1.append r3) (fun D doc pm an cdv ct us mv ws h1 h2 h3 => match us, mv, ws, h1, h2, h3 with | [_, _], [], [_], _, _, _ => rfl)
  exact ⟨_, fd, _, ds, He.glo_ok X G (c.d.fact 17 rfl), F.kp, Wk, hk, hb, hv, emptyT_ok e1⟩
theorem ftT {P : Program} {base : Heap} (X : K.In h) (G : h.Ns mainGlobals mg) (c : He.SaysT fa fn ts w K) (e : He.valsB K (He.ga K "PARTS") pairsP = true) :
    ∃ f fd, mg "fits" = some (.ref f) ∧ PySem.W.keepIn K (.ref f) = true ∧ FnOk P w K mg base CX0 10 f fd ["program", "most", "deep"] (spFits 8).up ∧ KBn K fd ["program", "most", "deep"] 1 ["most", "deep"] (fun us ws => us ++ ws) (fun vs zs => vs ++ zs) := by
  obtain ⟨fd, F⟩ := c.d.def_ 7 (d := d_fits) rfl
  have Pa := ok_parts_of (P := P) (base := base) (k := 0) (f_parts_of X G c.d) (t_PARTS X G c e) (n_zip X G c.d)
  have Al := ok_all_steps (f_all_steps X G c.d) Pa 8
  have De := ok_depth (f_depth X G c.d) Pa (n_max X G c.d) 8
  obtain ⟨mv, hk⟩ := FunD.kbinds0 (ps := ["program", "most", "deep"]) F 1 ["most", "deep"] [] (fun us _ ws => us ++ ws) (fun z => by cases z) (fun q hq => by cases hq) (fun r1 _ r3 => r1.append r3) (fun D doc pm an cdv ct us mv ws h1 h2 h3 => match us, mv, ws, h1, h2, h3 with | [_], [], [_, _], _, _, _ => rfl)
  exact ⟨_, fd, He.glo_ok X G (c.d.fact 7 rfl), F.kp, ok_fits F (n_len X G c.d) Al De, hk⟩
/-- the law -/
theorem facts {P : Program} (X : K.In h) (G : h.Ns mainGlobals mg) {f : Addr} (hfa : mg "law" = some (.ref f)) (cx : He.SaysX fa fn ts [] ex w h K) :
    ∃ fd : FuncData, (∀ (s : Shared) (u : Value), BindsTo s fd ⟨[u], []⟩ [("_law_script", u)]) ∧ ∀ base : Heap, K.In base → base.Ns mainGlobals mg → FnG P w K mg base 28 f fd ["_law_script"] (spLaw K) := by
  have c := cx.t
  obtain ⟨e1, e2⟩ := He.ba cx.more
  obtain ⟨eP, e3⟩ := He.ba e2
  obtain ⟨eW, eL⟩ := He.ba e3
  obtain ⟨fd, F⟩ := c.d.def_ 34 (d := d_law) rfl
  have e := hfa.symm.trans (He.glo_ok X G (c.d.fact 34 (f := .glo "law") rfl))
  cases e
  have b := FunD.bindsA (ps := ["_law_script"]) F (fun _ _ _ _ _ _ us hl => match us, hl with | [_], _ => rfl)
  refine ⟨fd, fun s u => b s [u] rfl, fun base _ _ => ?_⟩
  have Dr := ok_law_draw (P := P) (w := w) (base := base) (k := 0) (f_law_draw X G c.d) (n_len X G c.d)
  have Nu := ok_law_number (f_law_number X G c.d) Dr
  have Sm := ok_law_sum (f_law_sum X G c.d) Dr Nu (n_len X G c.d) 5
  have Pg := ok_law_prog (f_law_step X G c.d) (f_law_program X G c.d) Dr Sm (n_len X G c.d) (n_range X G c.d) (n_tuple X G c.d) 6
  have An := ok_law_any (f_law_any X G c.d) (Dr.mono (by decide)) Pg
  have Nm := ok_law_names (f_law_names X G c.d) Dr (n_range X G c.d) (n_sorted X G c.d) (n_set X G c.d)
  have Sc := ok_law_scene (f_law_scene X G c.d) (Dr.mono (by decide)) Nm Nu (n_range X G c.d) (n_tuple X G c.d)
  have Fe := ok_law_feed (P := P) (w := w) (base := base) (k := 0) (f_law_feed X G c.d) (n_list X G c.d)
  have Fx := ok_law_fixed (f_law_fixed_ifs X G c.d) Dr (n_len X G c.d) (n_tuple X G c.d) 6
  have Pl := ok_plain (P := P) (w := w) (base := base) (f_has_own X G c.d) (f_steps_for X G c.d) (f_plainer X G c.d) (n_any X G c.d) 8
  have Tu := ok_law_turned (P := P) (w := w) (base := base) (f_law_own X G c.d) (f_law_place X G c.d) (f_law_turned X G c.d) (n_list X G c.d) (n_range X G c.d) (n_len X G c.d) 8
  have Du := ok_law_due (f_law_due X G c.d) Tu
  have Co := ok_law_count (P := P) (w := w) (base := base) (k := 0) (f_law_count X G c.d) (n_len X G c.d) (n_max X G c.d)
  obtain ⟨ff, fdf, a1, a2, a3, a4⟩ := ftT (P := P) (base := base) X G c eP
  have Rt : RightTop P w K mg base 26 := ⟨Pl.mono (by decide), Du.mono (by decide), Co.mono (by decide), Dr.mono (by decide), wkT X G c e1 eW eL, ⟨ff, fdf, a1, a2, a3.mono (by decide), a4⟩, n_repr X G c.d, n_tuple X G c.d⟩
  obtain ⟨fr, fdr, b1, b2, b3⟩ := (f_law_right X G c.d).ex
  exact ok_law F (Fe.mono (by decide)) (Sc.mono (by decide)) (An.mono (by decide)) (Fx.mono (by decide)) ⟨fr, fdr, b1, b2.kp, b3, ok_law_right b2 Rt⟩ (n_repr X G c.d) (n_range X G c.d)
end
end Pk
-- ## PkEnd
set_option Elab.async false
set_option linter.all false
set_option maxRecDepth 100000
set_option maxHeartbeats 0
open PySem PySem.W PySem.Calls PyProof.Rows
theorem PySem.Challenge.cw_cellpacts_k14_whole_plainer_holds : PySem.Challenge.rw_cellpacts_k14_whole_plainer.Holds := by
  w_on; o_law
  refine HandSHeadRun.head_any (r := OpenLaw.row PySem.Challenge.rw_cellpacts_k14_whole_plainer) (q := view (OpenLaw.row PySem.Challenge.rw_cellpacts_k14_whole_plainer).prog [45]) (H := Pk.hk) (ob := Pk.ob) (M := 4000) (loose := Pk.loose) (d := HandSHeadRun.topDef (OpenLaw.row PySem.Challenge.rw_cellpacts_k14_whole_plainer).prog 45) (kwd := []) Pk.ob_eq
    (by kernel_rfl) (fun s => by kernel_rfl) Pk.run (by kernel_rfl) (by kernel_rfl) (by kernel_rfl) (by rfl) (by first | assumption | decide +kernel) (by decide +kernel) ⟨rfl, rfl, rfl, rfl, rfl, by decide +kernel⟩ ?hw ?hc
  case hw => w_witness2
  case hc =>
    refine Pk.walk_ofG (l := PySem.Challenge.rw_cellpacts_k14_whole_plainer) (n := 63) (k := 28) (x := "_law_script") rfl (by decide) (by kernel_rfl) ⟨rfl, by decide, by decide⟩ ?F
    intro w mg fa h Y G hmg0
    obtain ⟨K, KX, c⟩ := Y
    have hmg : mg ("law" : PySem.Str) = some (.ref fa) := by
      have e : (HandSHeadRun.topDef (OpenLaw.row PySem.Challenge.rw_cellpacts_k14_whole_plainer).prog 45).name = ("law" : PySem.Str) := by kernel_rfl
      rw [← e]
      exact hmg0
    obtain ⟨fd, hb, hF⟩ := Pk.facts (P := (PySem.Challenge.rw_cellpacts_k14_whole_plainer).prog) (w := w) KX G hmg c
    exact ⟨K, fd, Pk.spLaw K, KX, hb, fun H a ns hl hS => ⟨a, ns, rfl, hS, fun _ => rfl⟩, hF⟩
