import PyProof.Rows.All
import Wide.All
import OpenK.AllK
import Wide.FinOn
import KE.KUnpackStar
import HandS.ForMost
import HandS.ForExc
import HandS.Evl
import HandS.IsInst
import HandS.CallLocal
import HandS.Defaults
import HandS.TupAny
import HandS.TupLe
import HandS.Flow
import HandS.Head0
import HandS.Head1
import HandS.Head2
import HandS.HeadEnd
import HandS.HeadHook1
import HandS.HeadHook2
import HandS.HeadHook3
import HandS.HeadHook4
import HandS.NoneIn
import HandS.ExcIs
import HandS.MakeKwOnly
import HandS.Small
import KE.DataEq
import HandS.WordsExc
import HandS.ExcCtx
import HandS.ExcInit
import HandS.ExcField
import HandS.ClsMeth
import KE.KExcInit
import HandS.FStr
import HandS.Text
import HandS.Style
import HandS.RaiseMore
import HandS.SetKeys
import HandS.Wide
import HandS.Deep
import HandS.SortInts
import HandS.More
import HandS.DictComp
import KE.KSortedM
import HandS.OwnEq
import PyProof.InstNe
import HandS.TryMany
import KE.DatumOrd
import HandS.SortKw
import HandS.SortRule
import HandS.Conv
import HandS.Rev
import PyProof.ReprRoads
import HandS.Iter
import HandS.Zip0
import PyProof.CallType
import HandS.Zip
import HandS.StrSplit
import PyProof.StrOps2
import KE.KExcIs
import HandS.HotCalls
import PySem.Challenge.RW_neithertells_k47_bounds
set_option Elab.async false
set_option linter.all false
set_option maxRecDepth 100000
set_option maxHeartbeats 4000000

namespace Nt
open PySem PySem.Spec PyProof.Rows L2
/-! ### a def behind its name -/
structure Def (P : Program) (w : World) (K : PySem.W.Frag) (mg : Str → Option Value) (base : Heap) (CX : CXT) (k : Nat) (x : Str) (ps : List Str) (sp : Sp) : Prop where
  ex : ∃ (f : Addr) (fd : FuncData), mg x = some (.ref f) ∧ PySem.W.keepIn K (.ref f) = true ∧ Binds K fd ps [] ∧ FnOk P w K mg base CX k f fd ps sp
theorem Def.mono {P : Program} {w : World} {K : PySem.W.Frag} {mg : Str → Option Value} {base : Heap} {CX : CXT} {j k : Nat} {x : Str} {ps : List Str} {sp : Sp} (D : Def P w K mg base CX j x ps sp) (h : j ≤ k) : Def P w K mg base CX k x ps sp := by
  obtain ⟨f, fd, h1, h2, h3, h4⟩ := D.ex
  exact ⟨f, fd, h1, h2, h3, h4.mono h⟩
section
variable {X : Cx} {CX : CXT} {k : Nat} {ps : List Str} {sp : Sp} {E : XK} {x : Str} {p pos : Pos} {e : Expr} {es : List Expr} {t : TA}
theorem pe_callD (D : Def X.prog X.w X.K X.mg X.base CX k x ps sp) (hr : Room k X.A) (hg : Gl X x) (hx : Passes CX X E) (ha : PA X (e :: es) t) (hdb : (x == ("__debug__" : Str)) = false := by decide)
    (he : starEach (e :: es) X.env = (false, eval e X.env) :: starEach es X.env := by rfl) (hpl : (backTo pos (starEach es X.env)).any (·.1) = false := by rfl) :
    PE X (.Call (.Name x p) (e :: es) [] pos) (tCall sp [] E t) := by
  obtain ⟨f, fd, h1, h2, h3, h4⟩ := D.ex
  exact pe_call h4 hr hg h1 h2 h3 .nil hx ha hdb he hpl
theorem pe_gint {i : Int} (hg : Gl X x) (hm : ∃ t, X.mg x = some (.int i t)) (hd : (x == ("__debug__" : Str)) = false := by decide) : PE X (.Name x pos) (tC (.int i)) := by
  obtain ⟨t, h⟩ := hm
  exact pe_glob hg h ⟨t, rfl⟩ hd
theorem pe_gref {a : Addr} (hg : Gl X x) (hm : X.mg x = some (.ref a)) (hd : (x == ("__debug__" : Str)) = false := by decide) : PE X (.Name x pos) (tC (.ref a)) := pe_glob hg hm rfl hd
theorem pe_gstr {z : Str} (hg : Gl X x) (hm : ∃ t, X.mg x = some (.str z t)) (hd : (x == ("__debug__" : Str)) = false := by decide) : PE X (.Name x pos) (tC (.str z)) := by
  obtain ⟨t, h⟩ := hm
  exact pe_glob hg h ⟨t, rfl⟩ hd
end
/-! ### word, *parts = a tuple -/
section
variable {X : Cx} {pos : Pos}
def gStar (K : PySem.W.Frag) (n i : Nat) (t : TGs) : TG := fun v σ H Q => ∃ a xs, v = .ref a ∧ SqT K H a xs ∧ n ≤ xs.length + 1 ∧ i < n ∧
  ∀ p, H p = none → t (xs.take i ++ [.ref p] ++ (xs.drop i).drop (xs.length + 1 - n)) σ (upd H p (.lst ((xs.drop i).take (xs.length + 1 - n)))) Q
theorem pg_star {es : List Expr} {k : Nat} {t : TGs} {n i : Nat} (hc : X.calm = true) (h : PGs X es t)
    (hlen : (assignEach es X.env).length = n := by rfl) (hstar : (assignEach es X.env).findIdx? (·.1) = some i := by rfl) : PG X (.Tuple es k pos) (gStar X.K n i t) := by
  refine ⟨fun pins s σ H v u Q I r hw => ?_⟩
  obtain ⟨a, xs, e1, hq, hn, hi, hw⟩ := hw
  subst e1
  cases r
  obtain ⟨its, rv, hl, hz⟩ := I.tuple hq
  have hxl : xs.length = its.length := rv.length
  have hh := I.ok.hd hc
  have hlt : a ≠ s.heap.objs.size := by obtain ⟨o, ho, _⟩ := hl; exact Nat.ne_of_lt (Heap.lt_size ho)
  have hsz : its.toArray.size = its.length := by simp
  rw [PyProof.Rows.assign_Tuple]
  refine wpAny_bind (wpAny_standAt ?_)
  unfold unpack
  rw [hlen, hstar]
  refine wpAny_bind (wpAny_holding ?_)
  unfold unpackItems
  refine wpAny_bind ?_
  unfold notIterableAtAll
  refine wpAny_bind (wpAny_specialOf hl.typeIs slot_tuple_iter.lookup ?_)
  refine wpAny_pure ?_
  simp only [Bool.false_eq_true, if_false]
  refine wpAny_bind (wpAny_holding (iter_tuple hl ?_))
  refine wpAny_bind (wpAny_holding (draw_tuple hlt i 0 _ _ ⟨_, Heap.get?_push_size _ rfl, rfl, rfl⟩ (hl.push _) (by omega) fun h₁ hit₁ hs₁ => ?_))
  have hl₁ : IsTup h₁ a its.toArray := (hl.push _).extBut hs₁.extBut hlt
  rw [Nat.zero_add] at hit₁
  have hit₁' := hit₁
  obtain ⟨oi, hoi, _⟩ := hit₁'
  have hl₁' := hl₁
  obtain ⟨ol, hol, _⟩ := hl₁'
  rw [List.drop_zero]
  have hfl : (its.toArray.toList.take i).length = i := by rw [List.length_take, Array.length_toList]; omega
  rw [if_neg (show ¬ ((its.toArray.toList.take i).length < i) by rw [hfl]; omega)]
  refine wpAny_bind (wpAny_holding (PySem.W.kun_collect (s := { s with heap := h₁ }) (T := "tuple_iterator") (.inr (.inr (.inr rfl))) (Walks.tuple (A := X.A.in1) hh s.heap.objs.size a hlt its.toArray) (fun j u st => st.1.typeIs) (k := i) (by omega) ⟨hit₁, hl₁⟩ (Heap.lt_size hoi) (Heap.lt_size hol) (fun h₂ tk hk => ?_) (by omega)))
  have hrl : (its.toArray.toList.drop i).length = its.length - i := by rw [List.length_drop, Array.length_toList, hsz]
  have hmid : (its.toArray.toList.drop i).length - (n - 1 - i) = xs.length + 1 - n := by rw [hrl]; omega
  show wpAny _ _ (if (its.toArray.toList.drop i).length < n - 1 - i then _ else _) _ _ _
  rw [if_neg (by rw [hrl]; omega)]
  show wpAny _ _ (newList ((its.toArray.toList.drop i).take ((its.toArray.toList.drop i).length - (n - 1 - i))) >>= fun d => pure (its.toArray.toList.take i ++ [d] ++ (its.toArray.toList.drop i).drop ((its.toArray.toList.drop i).length - (n - 1 - i)))) _ _ _
  rw [hmid]
  have he : Heap.ExtBut s.heap.objs.size s.heap h₂ := fun b o hb e => hk b o hb (hs₁.extBut b o hb (Heap.get?_push_of_some _ e))
  have I1 : Inv X pins σ H { s with heap := h₂, toks := tk } := I.kept (t' := tk) fun b o e => he b o (Nat.ne_of_lt (Heap.lt_size e)) e
  have htl : its.toArray.toList = its := by simp
  rw [htl]
  refine wpAny_bind (wpAny_newList ?_ ?_)
  · refine wpAny_pure ?_
    have hf : H h₂.objs.size = none := I1.hok.fresh (Nat.le_refl _)
    have I2 := I1.laid (a := h₂.objs.size) (o := .lst ((xs.drop i).take (xs.length + 1 - n))) (h' := h₂.push { cls := .type "list", data := .seq ((its.drop i).take (xs.length + 1 - n)).toArray }) (t' := tk) (fun b u e => Heap.get?_push_of_some _ e) (Nat.le_refl _)
      ⟨by rw [List.length_take, List.length_drop]; omega, _, 0, (rv.drop i).take _, Heap.get?_push_size _ rfl⟩
    exact h.run pins _ σ _ _ _ Q I2 (((rv.take i).append (.cons (show RelV (.ref h₂.objs.size) (.ref h₂.objs.size) from rfl) .nil)).append ((rv.drop i).drop _)) (hw _ hf)
  · rw [List.length_take, List.length_drop]; omega
theorem pgs_star {e : Expr} {p : Pos} {t : TG} (h1 : PG X e t) (hs : (assignEach [.Starred e p] X.env).map (·.2) = [assign e X.env] := by rfl) : PGs X [.Starred e p] (gCons t gNil) := by
  refine ⟨fun pins s σ H vs us Q I r h => ?_⟩
  obtain ⟨v, vr, e1, h⟩ := h
  subst e1
  cases r with
  | cons r rr =>
    rw [hs]
    have h2 := h1.run pins s σ H v _ (fun σ' H' => gNil vr σ' H' Q) I r h
    refine assignInOrder_cons (thn h2 fun _ s1 ⟨σ', H', I', q⟩ => ?_)
    exact pgs_nil.run pins s1 σ' H' vr _ Q I' rr q
end

/-! ### a def from its text -/
section
variable {P : Program} {w : World} {K : PySem.W.Frag} {mg : Str → Option Value} {base : Heap} {x qual : Str} {params : Arguments} {body : List Stmt} {scope : Scope}
theorem mkDef {CX : CXT} {N ps : List Str} {k : Nat} {sp : Sp} {f : Addr} (F : ∃ fd, FunD K x qual params body scope [] [] f fd) (g : mg x = some (.ref f)) (S : FnScope N ps scope)
    (hb : ∀ (kV doc pm : Value) (an : Option Addr) (cdv ct : Value) (us : List Value), us.length = ps.length → bindArgs (PySem.W.fnOf x qual params body scope .none kV doc pm an cdv ct) ⟨us, []⟩ = pure (ps.zip us))
    (len : ∀ vs H Q E, sp vs H Q E → vs.length = ps.length)
    (hbody : ∀ (cdv : Value) (A : Around) (outer : List Env) (s : Shared) (H : Hp) (vs : List V) (Q : VK) (E : XK), Room k (A.deeper (envOfC qual scope s.heap.objs.size f cdv)) → sp vs H Q E →
      ∃ t, PSs (cxOf CX P w K mg base N qual scope f cdv A outer s H E) body t ∧ t { nx := fun _ H' => Q .non H', rt := Q } (start N vs) H) : Def P w K mg base CX (k + 1) x ps sp := by
  obtain ⟨fd, F⟩ := F
  exact ⟨f, fd, g, F.kp, F.bindsN hb, F.ok S len hbody⟩
end
/-! ### a written dict with text keys -/
structure DTab (K : PySem.W.Frag) (w : World) (a : Addr) (kvs : List (Str × V)) : Prop where
  kd : ∃ es n, KDict K w a es n
  val : ∀ z v, kvs.lookup z = some v → ∃ u, PySem.W.nsIn K a z = some (some u) ∧ RelV v u
  no : ∀ z, kvs.lookup z = none → PySem.W.nsIn K a z = some none
section
variable {X : Cx} {d : Addr} {kvs : List (Str × V)}
def rInTab (d : Addr) (kvs : List (Str × V)) : R2 := fun x y H Q => ∃ z : Str, x = .str z ∧ y = .ref d ∧ Q (.bl (kvs.lookup z).isSome) H
def rNiTab (d : Addr) (kvs : List (Str × V)) : R2 := fun x y H Q => ∃ z : Str, x = .str z ∧ y = .ref d ∧ Q (.bl (!(kvs.lookup z).isSome)) H
def rIxTab (d : Addr) (kvs : List (Str × V)) : R2 := fun x y H Q => ∃ (z : Str) (v : V), x = .ref d ∧ y = .str z ∧ kvs.lookup z = some v ∧ Q v H
theorem op_in_tab (D : DTab X.K X.w d kvs) : OpR X (compareOp .In) (rInTab d kvs) := by
  intro pins s σ H x y v u Q I rx ry h
  obtain ⟨z, rfl, rfl, q⟩ := h
  obtain ⟨es, n, kd⟩ := D.kd
  refine op_in_kd kd pins s σ H _ _ v u Q I rx ry ?_
  cases e : kvs.lookup z with
  | none =>
    rw [e] at q
    exact ⟨z, none, rfl, rfl, D.no z e, q⟩
  | some v0 =>
    obtain ⟨u0, h1, _⟩ := D.val z v0 e
    rw [e] at q
    exact ⟨z, some u0, rfl, rfl, h1, q⟩
theorem op_ni_tab (D : DTab X.K X.w d kvs) : OpR X (compareOp .NotIn) (rNiTab d kvs) := by
  intro pins s σ H x y v u Q I rx ry h
  obtain ⟨z, rfl, rfl, q⟩ := h
  obtain ⟨es, n, kd⟩ := D.kd
  refine op_notIn_kd kd pins s σ H _ _ v u Q I rx ry ?_
  cases e : kvs.lookup z with
  | none =>
    rw [e] at q
    exact ⟨z, none, rfl, rfl, D.no z e, q⟩
  | some v0 =>
    obtain ⟨u0, h1, _⟩ := D.val z v0 e
    rw [e] at q
    exact ⟨z, some u0, rfl, rfl, h1, q⟩
theorem ix_tab (D : DTab X.K X.w d kvs) : IxR X (rIxTab d kvs) := by
  intro value slice pins s σ H x y v u Q I rx ry h hs
  obtain ⟨z, v0, rfl, rfl, e, q⟩ := h
  obtain ⟨es, n, kd⟩ := D.kd
  obtain ⟨u0, h1, h2⟩ := D.val z v0 e
  exact ix_kdict value slice pins s σ H _ _ v u Q I rx ry ⟨d, z, v0, rfl, rfl, ⟨es, n, u0, kd.at_, kd.lit, h1, h2⟩, q⟩ hs
end
/-- the table's check by K alone -/
def kTab (K : PySem.W.Frag) (a : Addr) (kvs : List (Str × He.Dv)) : Bool := match K.lookup a with
  | some ⟨_, _, .dict es _, _⟩ => go es.toList kvs
  | _ => false
where go : List DictEntry → List (Str × He.Dv) → Bool
  | [], [] => true
  | e :: es, q :: qs => (match e.key with
    | .str y _ => decide (y = q.1)
    | _ => false) && (He.relB (q.2.v K) e.val && go es qs)
  | _, _ => false
theorem kTab_go {K : PySem.W.Frag} (z : Str) : ∀ {es : List DictEntry} {kvs : List (Str × He.Dv)}, kTab.go K es kvs = true → es.any (·.refKey) = false ∧
    ((∃ v e, kvs.lookup z = some v ∧ es.find? (·.key.isStr z) = some e ∧ RelV (v.v K) e.val) ∨ (kvs.lookup z = none ∧ es.find? (·.key.isStr z) = none))
  | [], [], _ => ⟨rfl, .inr ⟨rfl, rfl⟩⟩
  | [], _ :: _, h => by cases h
  | _ :: _, [], h => by cases h
  | e :: es, q :: qs, h => by
    obtain ⟨h1, h2⟩ := He.ba (show ((match e.key with | .str y _ => decide (y = q.1) | _ => false) && (He.relB (q.2.v K) e.val && kTab.go K es qs)) = true from h)
    obtain ⟨h3, h4⟩ := He.ba h2
    obtain ⟨i1, i2⟩ := kTab_go (K := K) z h4
    obtain ⟨qk, qv⟩ := q
    cases ek : e.key with
    | str y t =>
      rw [ek] at h1
      have ey : y = qk := of_decide_eq_true h1
      refine ⟨?_, ?_⟩
      · rw [List.any_cons, i1]
        simp [DictEntry.refKey, ek]
      · rw [List.find?_cons, List.lookup_cons, ek]
        by_cases hz : z = qk
        · have e1 : (Value.str y t).isStr z = true := by rw [ey, hz]; simp [Value.isStr]
          have e2 : (z == qk) = true := by rw [hz]; simp
          rw [e1, e2]
          exact .inl ⟨qv, e, rfl, rfl, He.relB_ok h3⟩
        · have e1 : (Value.str y t).isStr z = false := by
            rw [ey]
            simp only [Value.isStr]
            cases hq : (qk == z) with
            | false => rfl
            | true => exact absurd (eq_of_beq hq).symm hz
          have e2 : (z == qk) = false := beq_eq_false_iff_ne.mpr hz
          rw [e1, e2]
          exact i2
    | _ =>
      rw [ek] at h1
      cases h1
theorem kTab_ok {K : PySem.W.Frag} {w : World} {a : Addr} {kvs : List (Str × He.Dv)} (h : kTab K a kvs = true) (kd : ∃ es n, KDict K w a es n) : DTab K w a (kvs.map fun q => (q.1, q.2.v K)) := by
  unfold kTab at h
  cases q : K.lookup a with
  | none => rw [q] at h; cases h
  | some o =>
    obtain ⟨oc, od, dt, osl⟩ := o
    rw [q] at h
    cases dt with
    | dict es n =>
      have lk : ∀ z, (kvs.map fun q => (q.1, q.2.v K)).lookup z = (kvs.lookup z).map (He.Dv.v K) := by
        intro z
        clear h q kd
        induction kvs with
        | nil => rfl
        | cons p r ih =>
          obtain ⟨pk, pv⟩ := p
          rw [List.map_cons, List.lookup_cons, List.lookup_cons, ih]
          cases (z == pk) <;> rfl
      refine ⟨kd, fun z v e => ?_, fun z e => ?_⟩
      · rw [lk] at e
        obtain ⟨i1, i2⟩ := kTab_go (K := K) z h
        rcases i2 with ⟨v0, en, e1, e2, e3⟩ | ⟨e1, e2⟩
        · rw [e1] at e
          cases e
          exact ⟨en.val, by unfold PySem.W.nsIn; rw [q]; simp only [e2], e3⟩
        · rw [e1] at e
          cases e
      · rw [lk] at e
        obtain ⟨i1, i2⟩ := kTab_go (K := K) z h
        rcases i2 with ⟨v0, en, e1, e2, e3⟩ | ⟨e1, e2⟩
        · rw [e1] at e
          cases e
        · unfold PySem.W.nsIn
          rw [q]
          simp only [e2, i1]
          rfl
    | _ => cases h
/-- a written tuple at an address -/
def kTup (K : PySem.W.Frag) (a : Addr) (vs : List He.Dv) : Bool := match K.lookup a with
  | some ⟨.type c, _, .seq its _, _⟩ => decide (c = "tuple") && (decide (its.size ≤ 1000) && He.relAll (vs.map (He.Dv.v K)) its.toList)
  | _ => false
theorem kTup_ok {K : PySem.W.Frag} {a : Addr} {vs : List He.Dv} (h : kTup K a vs = true) (H : Hp) : SqT K H a (vs.map (He.Dv.v K)) := by
  unfold kTup at h
  cases q : K.lookup a with
  | none => rw [q] at h; cases h
  | some o =>
    obtain ⟨oc, od, dt, osl⟩ := o
    rw [q] at h
    cases oc with
    | type c =>
      cases dt with
      | seq its n =>
        obtain ⟨h1, h2⟩ := He.ba h
        obtain ⟨h3, h4⟩ := He.ba h2
        have ec : c = "tuple" := of_decide_eq_true h1
        subst ec
        exact .inr ⟨_, its, n, q, rfl, rfl, Nat.le_trans (of_decide_eq_true h3) (by decide), He.relAll_ok h4⟩
      | _ => cases h
    | _ => cases dt <;> cases h
/-- the value under a key of a written dict, if it is an object -/
def tabAt (x k : Str) (K : PySem.W.Frag) : Addr := match PySem.W.nsIn K (He.ga K x) k with
  | some (some (.ref a)) => a
  | _ => 0
/-! ### data -/
theorem Same.seqT {K : PySem.W.Frag} {H H' : Hp} {a : Addr} {xs : List V} (e : Same H H') (h : SqT K H a xs) : SqT K H' a xs := Evl.ex_t e h
theorem Same.new {H : Hp} {p : Addr} {o : HO} (h : H p = none) : Same H (upd H p o) := Evl.Ex.new h
mutual
theorem dp_mono {K : PySem.W.Frag} {H H' : Hp} (e : Same H H') : ∀ {v : V} {d : PyData}, Dp K H v d → Dp K H' v d
  | _, _, .non => .non
  | _, _, .bl b => .bl b
  | _, _, .int i => .int i
  | _, _, .str x => .str x
  | _, _, .lst h a => .lst (e.seq h) (dpAll_mono e a)
  | _, _, .tup h a => .tup (Same.seqT e h) (dpAll_mono e a)
theorem dpAll_mono {K : PySem.W.Frag} {H H' : Hp} (e : Same H H') : ∀ {vs : List V} {ds : List PyData}, DpAll K H vs ds → DpAll K H' vs ds
  | _, _, .nil => .nil
  | _, _, .cons h a => .cons (dp_mono e h) (dpAll_mono e a)
end
theorem dpAll_len {K : PySem.W.Frag} {H : Hp} : ∀ {vs : List V} {ds : List PyData}, DpAll K H vs ds → vs.length = ds.length
  | _, _, .nil => rfl
  | _, _, .cons _ a => congrArg Nat.succ (dpAll_len a)
theorem dpAll_get {K : PySem.W.Frag} {H : Hp} : ∀ {vs : List V} {ds : List PyData} {i : Nat} {v : V}, DpAll K H vs ds → vs[i]? = some v → ∃ d, ds[i]? = some d ∧ Dp K H v d
  | _, _, 0, _, .cons h _, e => by cases e; exact ⟨_, rfl, h⟩
  | _, _, i + 1, _, .cons _ a, e => dpAll_get (i := i) a e
theorem dpAll_get' {K : PySem.W.Frag} {H : Hp} : ∀ {vs : List V} {ds : List PyData} {i : Nat} {d : PyData}, DpAll K H vs ds → ds[i]? = some d → ∃ v, vs[i]? = some v ∧ Dp K H v d
  | _, _, 0, _, .cons h _, e => by cases e; exact ⟨_, rfl, h⟩
  | _, _, i + 1, _, .cons _ a, e => dpAll_get' (i := i) a e
theorem dpAll_drop {K : PySem.W.Frag} {H : Hp} : ∀ {vs : List V} {ds : List PyData} (n : Nat), DpAll K H vs ds → DpAll K H (vs.drop n) (ds.drop n)
  | _, _, 0, h => h
  | _, _, _ + 1, .nil => .nil
  | _, _, n + 1, .cons _ a => dpAll_drop n a
theorem dpAll_take {K : PySem.W.Frag} {H : Hp} : ∀ {vs : List V} {ds : List PyData} (n : Nat), DpAll K H vs ds → DpAll K H (vs.take n) (ds.take n)
  | _, _, 0, h => .nil
  | _, _, _ + 1, .nil => .nil
  | _, _, n + 1, .cons h a => .cons h (dpAll_take n a)
theorem dpAll_append {K : PySem.W.Frag} {H : Hp} : ∀ {vs us : List V} {ds es : List PyData}, DpAll K H vs ds → DpAll K H us es → DpAll K H (vs ++ us) (ds ++ es)
  | _, _, _, _, .nil, h => h
  | _, _, _, _, .cons h a, k => .cons h (dpAll_append a k)
def tyN : PyData → String
  | .none => "NoneType"
  | .bool _ => "bool"
  | .int _ => "int"
  | .str _ => "str"
  | .list _ => "list"
  | .tuple _ => "tuple"
  | .dict _ => "dict"
theorem dp_ty {K : PySem.W.Frag} {H : Hp} {v : V} {d : PyData} (h : Dp K H v d) : TyX K H v (.type (tyN d)) := by
  cases h with
  | non => exact .base .non
  | bl b => exact .base (.bl b)
  | int i => exact .base (.int i)
  | str x => exact .base (.str x)
  | lst q _ =>
    rcases q with (q | ⟨o, q⟩) | ⟨o, its, n, h1, h2, _⟩
    · exact .base (.lst q)
    · exact .base (.frz q)
    · exact .kList h1 h2
  | tup q _ =>
    rcases q with (q | ⟨o, q⟩) | ⟨o, its, n, h1, h2, _⟩
    · exact .base (.tup q)
    · exact .fTuple q
    · exact .kTuple h1 h2
def isInt : PyData → Bool
  | .int _ => true
  | .bool _ => true
  | _ => false
def isBool : PyData → Bool
  | .bool _ => true
  | _ => false
def isStr : PyData → Bool
  | .str _ => true
  | _ => false
def isTup : PyData → Bool
  | .tuple _ => true
  | _ => false
def isLst : PyData → Bool
  | .list _ => true
  | _ => false
theorem kit_int (d : PyData) : kitB (tyN d) "int" = some (isInt d) := by cases d <;> kernel_rfl
theorem kit_bool (d : PyData) : kitB (tyN d) "bool" = some (isBool d) := by cases d <;> kernel_rfl
theorem kit_str (d : PyData) : kitB (tyN d) "str" = some (isStr d) := by cases d <;> kernel_rfl
theorem kit_tup (d : PyData) : kitB (tyN d) "tuple" = some (isTup d) := by cases d <;> kernel_rfl
theorem kit_lst (d : PyData) : kitB (tyN d) "list" = some (isLst d) := by cases d <;> kernel_rfl
theorem isi_d {K : PySem.W.Frag} {H : Hp} {v : V} {d : PyData} {n : String} {b : Bool} (h : Dp K H v d) (k : kitB (tyN d) n = some b) : Evl.RC (rIsi K) [v, .ty n] H (.bl b) := fun H1 e Q q =>
  ⟨v, .ty n, _, _, b, rfl, .ty n, dp_ty (dp_mono e h), kit_ty k, q H1 (Evl.Ex.refl H1)⟩
end Nt

namespace Nt
open PySem PySem.Spec PyProof.Rows L2 Evl
/-! ### values: more of Evl -/
section
variable {K : PySem.W.Frag} {σ : L2.St} {H H' : Hp} {ta tb tc te : TE} {x y z v : V} {r r' : R2}
theorem ev_chain {k1 k2 : Bool} (ha : Ev ta σ H x) (hb : Ev tb σ H y) (h1 : RV r x y H (.bl k1)) (hc : k1 = true → Ev tc σ H z) (h2 : k1 = true → RV r' y z H (.bl k2)) : Ev (tChain r r' ta tb tc) σ H (.bl (k1 && k2)) := fun H0 e Q q =>
  ha H0 e _ fun H1 e1 => hb H1 (e.trans e1) _ fun H2 e2 => h1 H2 ((e.trans e1).trans e2) _ fun H3 e3 => ⟨k1, rfl, by
    cases k1 with
    | true =>
      rw [if_pos rfl]
      refine hc rfl H3 (((e.trans e1).trans e2).trans e3) _ fun H4 e4 => ?_
      exact h2 rfl H4 ((((e.trans e1).trans e2).trans e3).trans e4) _ fun H5 e5 => q H5 (e1.trans (e2.trans (e3.trans (e4.trans e5))))
    | false =>
      rw [if_neg Bool.false_ne_true]
      exact q H3 (e1.trans (e2.trans e3))⟩
theorem rv_le {i j : Int} : RV (rI0 fun i j => .bl (decide (i ≤ j))) (.int i) (.int j) H (.bl (decide (i ≤ j))) := rv_I0
theorem rv_lt {i j : Int} : RV (rI0 fun i j => .bl (decide (i < j))) (.int i) (.int j) H (.bl (decide (i < j))) := rv_I0
theorem rv_gt {i j : Int} : RV (rI0 fun i j => .bl (decide (j < i))) (.int i) (.int j) H (.bl (decide (j < i))) := rv_I0
theorem rv_inTab {d : Addr} {kvs : List (Str × V)} {s : Str} : RV (rInTab d kvs) (.str s) (.ref d) H (.bl (kvs.lookup s).isSome) := fun H1 _ _ q => ⟨s, rfl, rfl, q H1 (Ex.refl H1)⟩
theorem rv_niTab {d : Addr} {kvs : List (Str × V)} {s : Str} : RV (rNiTab d kvs) (.str s) (.ref d) H (.bl (!(kvs.lookup s).isSome)) := fun H1 _ _ q => ⟨s, rfl, rfl, q H1 (Ex.refl H1)⟩
theorem rv_ixTab {d : Addr} {kvs : List (Str × V)} {s : Str} (h : kvs.lookup s = some v) : RV (rIxTab d kvs) (.ref d) (.str s) H v := fun H1 _ _ q => ⟨s, v, rfl, rfl, h, q H1 (Ex.refl H1)⟩
theorem rc_lenL {a : Addr} {xs : List V} (h : SqL K H a xs) : RC (rLenS K) [.ref a] H (.int xs.length) := fun H1 e _ q => ⟨a, xs, rfl, .inl (ex_l e h), q H1 (Ex.refl H1)⟩
theorem rc_lenT {a : Addr} {xs : List V} (h : SqT K H a xs) : RC (rLenS K) [.ref a] H (.int xs.length) := fun H1 e _ q => ⟨a, xs, rfl, .inr (ex_t e h), q H1 (Ex.refl H1)⟩
theorem rc_sum {a : Addr} {ns : List Int} (h : SqL K H a (ns.map V.int)) : RC (rSum K) [.ref a] H (.int ns.sum) := fun H1 e _ q => ⟨a, ns, rfl, ex_l e h, q H1 (Ex.refl H1)⟩
theorem rv_notN : RV (fun x y H Q => y = .non ∧ Q (.bl (!decide (x = .non))) H) v .non H (.bl (!decide (v = .non))) := fun H1 _ _ q => ⟨rfl, q H1 (Ex.refl H1)⟩
theorem rv_isN : RV (fun x y H Q => y = .non ∧ Q (.bl (decide (x = .non))) H) v .non H (.bl (decide (v = .non))) := fun H1 _ _ q => ⟨rfl, q H1 (Ex.refl H1)⟩
/-- a comprehension without a test, its items known one by one -/
theorem el_mapL {a : Addr} {xs ys : List V} {tl : TE} {j : Nat} {vs : List Nat} (h : Ev tl σ H (.ref a)) (hx : SqL K H a xs) (hl : ys.length = xs.length) (hz : xs.length ≤ 40000) (hw : ∀ x, wipe ((wipe σ vs).set j (some x)) vs = wipe σ vs)
    (he : ∀ (i : Nat) (x y : V) H1, Ex H H1 → xs[i]? = some x → ys[i]? = some y → Ev te ((wipe σ vs).set j (some x)) H1 y) :
    EvL (tLc (iList K tl) (gName j) tYes te vs) σ H ys := fun H0 e Q q => h H0 e _ fun H1 e1 => ⟨a, rfl, ⟨xs, ex_l (e.trans e1) hx⟩, fun Dl hD =>
  lc_list (xs := xs) (fun i H' => H1 Dl = none ∧ Ex H1 H' ∧ H' Dl = some (.lst (ys.take i))) ⟨hD, Ex.new hD, upd_same⟩ (fun i H' _ p => ex_l ((e.trans e1).trans p.2.1) hx) (fun i x H' hi p => ⟨hw x, by
      obtain ⟨p1, p2, p3⟩ := p
      have hlt : i < xs.length := (List.getElem?_eq_some_iff.mp hi).1
      obtain ⟨y, hy⟩ : ∃ y, ys[i]? = some y := ⟨ys[i], List.getElem?_eq_getElem (by omega)⟩
      dsimp only [tYes]
      rw [if_pos rfl]
      refine he i x y H' ((e.trans e1).trans p2) hi hy H' (Ex.refl _) _ fun H2 e2 => ⟨ys.take i, e2 _ _ p3, sz_lt (by rw [List.length_take]; omega), p1, Ex.mut (p2.trans e2) p1, ?_⟩
      rw [upd_same, List.take_add_one, hy]
      rfl⟩)
    (fun H' p => q Dl H' (fresh_back e1 p.1) (e1.trans p.2.1) (by rw [p.2.2, ← hl, List.take_length]))⟩
theorem el_mapT {a : Addr} {xs ys : List V} {tl : TE} {j : Nat} {vs : List Nat} (h : Ev tl σ H (.ref a)) (hx : SqT K H a xs) (hl : ys.length = xs.length) (hz : xs.length ≤ 40000) (hw : ∀ x, wipe ((wipe σ vs).set j (some x)) vs = wipe σ vs)
    (he : ∀ (i : Nat) (x y : V) H1, Ex H H1 → xs[i]? = some x → ys[i]? = some y → Ev te ((wipe σ vs).set j (some x)) H1 y) :
    EvL (tLc (iTup K tl) (gName j) tYes te vs) σ H ys := fun H0 e Q q => h H0 e _ fun H1 e1 => ⟨a, rfl, ⟨xs, ex_t (e.trans e1) hx⟩, fun Dl hD =>
  lc_tup (xs := xs) (fun i H' => H1 Dl = none ∧ Ex H1 H' ∧ H' Dl = some (.lst (ys.take i))) ⟨hD, Ex.new hD, upd_same⟩ (fun i H' _ p => ex_t ((e.trans e1).trans p.2.1) hx) (fun i x H' hi p => ⟨hw x, by
      obtain ⟨p1, p2, p3⟩ := p
      have hlt : i < xs.length := (List.getElem?_eq_some_iff.mp hi).1
      obtain ⟨y, hy⟩ : ∃ y, ys[i]? = some y := ⟨ys[i], List.getElem?_eq_getElem (by omega)⟩
      dsimp only [tYes]
      rw [if_pos rfl]
      refine he i x y H' ((e.trans e1).trans p2) hi hy H' (Ex.refl _) _ fun H2 e2 => ⟨ys.take i, e2 _ _ p3, sz_lt (by rw [List.length_take]; omega), p1, Ex.mut (p2.trans e2) p1, ?_⟩
      rw [upd_same, List.take_add_one, hy]
      rfl⟩)
    (fun H' p => q Dl H' (fresh_back e1 p.1) (e1.trans p.2.1) (by rw [p.2.2, ← hl, List.take_length]))⟩
end
/-! calls by their promise, arguments pure -/
section
variable {σ : L2.St} {H : Hp} {D : Ends} {tz : TS} {sp : Sp} {dvs vs : List V} {E : XK} {ta : TA} {Q : VK}
theorem c_call (ha : EvA ta σ H vs) (k : ∀ H1, Ex H H1 → sp (vs ++ dvs) H1 Q E) : tCall sp dvs E ta σ H Q := ha H (Ex.refl H) _ k
theorem c_asg {i : Nat} (ha : EvA ta σ H vs) (k : ∀ H1, Ex H H1 → sp (vs ++ dvs) H1 (fun v H2 => tz D (σ.set i (some v)) H2) E) : tSeq (tAsg (tCall sp dvs E ta) (gName i)) tz D σ H := ha H (Ex.refl H) _ k
theorem c_ret (ha : EvA ta σ H vs) (k : ∀ H1, Ex H H1 → sp (vs ++ dvs) H1 D.rt E) : tRet (tCall sp dvs E ta) D σ H := ha H (Ex.refl H) _ k
end
/-! ### promises by values -/
def sp1 (K : PySem.W.Frag) (f : PyData → V) : Sp := fun vs H Q _ => ∃ v d, vs = [v] ∧ Dp K H v d ∧ ∀ H', Same H H' → Q (f d) H'
theorem spv1 {K : PySem.W.Frag} {f : PyData → V} {v : V} {d : PyData} {H : Hp} (h : Dp K H v d) : SpV (sp1 K f) [v] H (f d) := fun H1 e Q q E => ⟨v, d, rfl, dp_mono e h, fun H' e' => q H' e'⟩
/-- a promise that nothing asks -/
theorem Def.idle {P : Program} {w : World} {K : PySem.W.Frag} {mg : Str → Option Value} {base : Heap} {CX : CXT} {x qual : Str} {params : Arguments} {body : List Stmt} {scope : Scope} {ps : List Str} {f : Addr} (k : Nat)
    (F : ∃ fd, FunD K x qual params body scope [] [] f fd) (g : mg x = some (.ref f))
    (hb : ∀ (kV doc pm : Value) (an : Option Addr) (cdv ct : Value) (us : List Value), us.length = ps.length → bindArgs (PySem.W.fnOf x qual params body scope .none kV doc pm an cdv ct) ⟨us, []⟩ = pure (ps.zip us)) :
    Def P w K mg base CX k x ps (fun _ _ _ _ => False) := by
  obtain ⟨fd, F⟩ := F
  exact ⟨f, fd, g, F.kp, F.bindsN hb, ⟨fun _ _ _ _ h => h.elim, fun _ _ _ _ _ _ _ _ _ _ _ _ _ h => h.elim⟩⟩
end Nt

namespace Nt
open PySem PySem.Spec PyProof.Rows L2 Evl
/-! ### evaluation while some tracked lists change: M the changing addresses, J what stays true of them -/
structure Wd where
  M : Addr → Bool
  J : Hp → Prop
  live : ∀ H a, J H → M a = true → H a ≠ none
  loc : ∀ H H', J H → (∀ a, M a = true → H' a = H a) → J H'
/-- without the changing ones -/
def Wd.wo (W : Wd) (H : Hp) : Hp := fun a => if W.M a = true then none else H a
theorem Wd.wo_same (W : Wd) (H : Hp) : Same (W.wo H) H := fun a o h => by
  unfold Wd.wo at h
  split at h
  · cases h
  · exact h
/-- a later heap -/
structure Wd.Le (W : Wd) (H H' : Hp) : Prop where
  s : Same (W.wo H) (W.wo H')
  j : W.J H'
theorem Wd.Le.refl {W : Wd} {H : Hp} (h : W.J H) : W.Le H H := ⟨Same.refl _, h⟩
theorem Wd.Le.trans {W : Wd} {H H1 H2 : Hp} (a : W.Le H H1) (b : W.Le H1 H2) : W.Le H H2 := ⟨a.s.trans b.s, b.j⟩
/-- what a def without changes leaves -/
theorem Wd.Le.of_same {W : Wd} {H H' : Hp} (j : W.J H) (s : Same H H') : W.Le H H' := by
  have hm : ∀ a, W.M a = true → H' a = H a := fun a ha => by
    cases q : H a with
    | none => exact absurd q (W.live H a j ha)
    | some o => exact s a o q
  refine ⟨fun a o h => ?_, W.loc H H' j hm⟩
  unfold Wd.wo at h ⊢
  split at h
  · cases h
  · rename_i hn
    rw [if_neg hn]
    exact s a o h
theorem Wd.Le.new {W : Wd} {H : Hp} {p : Addr} {o : HO} (j : W.J H) (h : H p = none) : W.Le H (upd H p o) := .of_same j (Same.new h)
theorem Wd.notM {W : Wd} {H : Hp} {p : Addr} (j : W.J H) (h : H p = none) : W.M p = false := by
  cases q : W.M p with
  | false => rfl
  | true => exact absurd h (W.live H p j q)
theorem Wd.wo_at {W : Wd} {H : Hp} {p : Addr} {o : HO} (hm : W.M p = false) (h : H p = some o) : W.wo H p = some o := by
  unfold Wd.wo
  rw [if_neg (by rw [hm]; exact Bool.false_ne_true)]
  exact h
theorem Wd.dp {W : Wd} {K : PySem.W.Frag} {H : Hp} {v : V} {d : PyData} (h : Dp K (W.wo H) v d) : Dp K H v d := dp_mono (W.wo_same H) h
theorem Wd.Le.dp {W : Wd} {K : PySem.W.Frag} {H H' : Hp} {v : V} {d : PyData} (e : W.Le H H') (h : Dp K (W.wo H) v d) : Dp K (W.wo H') v d := dp_mono e.s h
theorem Wd.Le.dpAll {W : Wd} {K : PySem.W.Frag} {H H' : Hp} {v : List V} {d : List PyData} (e : W.Le H H') (h : DpAll K (W.wo H) v d) : DpAll K (W.wo H') v d := dpAll_mono e.s h

/-- te evaluates to a datum of P -/
def Em (W : Wd) (K : PySem.W.Frag) (te : TE) (σ : L2.St) (H : Hp) (P : PyData → Prop) : Prop := ∀ H1, W.Le H H1 → ∀ Q : VK, (∀ v d H2, W.Le H1 H2 → Dp K (W.wo H2) v d → P d → Q v H2) → te σ H1 Q
def EmA (W : Wd) (K : PySem.W.Frag) (ta : TA) (σ : L2.St) (H : Hp) (P : List PyData → Prop) : Prop := ∀ H1, W.Le H H1 → ∀ Q : List V → Hp → Prop, (∀ vs ds H2, W.Le H1 H2 → DpAll K (W.wo H2) vs ds → P ds → Q vs H2) → ta σ H1 Q
def EmT (W : Wd) (tt : TT) (σ : L2.St) (H : Hp) (P : Bool → Prop) : Prop := ∀ H1, W.Le H H1 → ∀ Q : Bool → Hp → Prop, (∀ b H2, W.Le H1 H2 → P b → Q b H2) → tt σ H1 Q
/-- an int of P, a text of P, a truth of P -/
def IsI (P : Int → Prop) (d : PyData) : Prop := ∃ i, d = .int i ∧ P i
def IsS (P : Str → Prop) (d : PyData) : Prop := ∃ s, d = .str s ∧ P s
def IsB (P : Bool → Prop) (d : PyData) : Prop := ∃ b, d = .bool b ∧ P b
def IsLs (P : List PyData → Prop) (d : PyData) : Prop := ∃ ds, d = .list ds ∧ P ds
def IsTp (P : List PyData → Prop) (d : PyData) : Prop := ∃ ds, d = .tuple ds ∧ P ds
section
variable {W : Wd} {K : PySem.W.Frag} {σ : L2.St} {H H' : Hp} {te ta tb tc : TE} {P P1 P2 P3 : PyData → Prop} {t u : TT} {D : Ends} {tu tw tz : TS}
theorem dpI {v : V} {i : Int} (h : Dp K H v (.int i)) : v = .int i := by cases h; rfl
theorem dpS {v : V} {s : Str} (h : Dp K H v (.str s)) : v = .str s := by cases h; rfl
theorem dpB {v : V} {b : Bool} (h : Dp K H v (.bool b)) : v = .bl b := by cases h; rfl
theorem dpN {v : V} (h : Dp K H v .none) : v = .non := by cases h; rfl
theorem dpT {v : V} {ds : List PyData} (h : Dp K H v (.tuple ds)) : ∃ a xs, v = .ref a ∧ SqT K H a xs ∧ DpAll K H xs ds := by
  cases h with
  | tup h1 h2 => exact ⟨_, _, rfl, h1, h2⟩
theorem dpL {v : V} {ds : List PyData} (h : Dp K H v (.list ds)) : ∃ a xs, v = .ref a ∧ SqL K H a xs ∧ DpAll K H xs ds := by
  cases h with
  | lst h1 h2 => exact ⟨_, _, rfl, h1, h2⟩
theorem Em.mono (e : W.Le H H') (h : Em W K te σ H P) : Em W K te σ H' P := fun H1 a Q q => h H1 (e.trans a) Q q
theorem Em.imp (h : Em W K te σ H P) (i : ∀ d, P d → P1 d) : Em W K te σ H P1 := fun H1 a Q q => h H1 a Q fun v d H2 e hd p => q v d H2 e hd (i d p)
theorem EmT.imp {P P1 : Bool → Prop} (h : EmT W t σ H P) (i : ∀ d, P d → P1 d) : EmT W t σ H P1 := fun H1 a Q q => h H1 a Q fun b H2 e p => q b H2 e (i b p)
theorem EmA.imp {ta : TA} {P P1 : List PyData → Prop} (h : EmA W K ta σ H P) (i : ∀ d, P d → P1 d) : EmA W K ta σ H P1 := fun H1 a Q q => h H1 a Q fun v d H2 e hd p => q v d H2 e hd (i d p)
theorem em_var {i : Nat} {v : V} {d : PyData} (h : σ[i]? = some (some v)) (hd : Dp K (W.wo H) v d) (p : P d) : Em W K (tVar i) σ H P := fun H1 e _ q => ⟨v, h, q v d H1 (.refl e.j) (e.dp hd) p⟩
theorem em_int {i : Int} (p : P (.int i)) : Em W K (tC (.int i)) σ H P := fun H1 e _ q => q _ _ H1 (.refl e.j) (.int i) p
theorem em_str {s : Str} (p : P (.str s)) : Em W K (tC (.str s)) σ H P := fun H1 e _ q => q _ _ H1 (.refl e.j) (.str s) p
theorem em_bl {b : Bool} (p : P (.bool b)) : Em W K (tC (.bl b)) σ H P := fun H1 e _ q => q _ _ H1 (.refl e.j) (.bl b) p
theorem em_non (p : P .none) : Em W K (tC .non) σ H P := fun H1 e _ q => q _ _ H1 (.refl e.j) .non p
/-- what evaluates purely -/
theorem em_of {v : V} {d : PyData} (h : ∀ H1, W.Le H H1 → Ev te σ H1 v) (hd : ∀ H1, W.Le H H1 → Dp K (W.wo H1) v d) (p : P d) : Em W K te σ H P := fun H1 e Q q =>
  h H1 e H1 (Ex.refl _) Q fun H2 e2 => q v d H2 (.of_same e.j e2) (hd H2 (e.trans (.of_same e.j e2))) p
theorem em_op {r : R2} (ha : Em W K ta σ H P1) (hb : Em W K tb σ H P2) (hr : ∀ x y dx dy H1, W.Le H H1 → Dp K (W.wo H1) x dx → P1 dx → Dp K (W.wo H1) y dy → P2 dy → ∀ Q : VK, (∀ v d H2, W.Le H1 H2 → Dp K (W.wo H2) v d → P d → Q v H2) → r x y H1 Q) : Em W K (tOp r ta tb) σ H P := fun H1 e Q q =>
  ha H1 e _ fun x dx H2 e2 hx px => hb H2 (e.trans e2) _ fun y dy H3 e3 hy py => hr x y dx dy H3 (e.trans (e2.trans e3)) (e3.dp hx) px hy py Q fun v d H4 e4 hv pv => q v d H4 (e2.trans (e3.trans e4)) hv pv
theorem em_opI {C : Int → Int → Prop} {g : Int → Int → Int} {P1 P2 P : Int → Prop} (ha : Em W K ta σ H (IsI P1)) (hb : Em W K tb σ H (IsI P2)) (hc : ∀ i j, P1 i → P2 j → C i j ∧ P (g i j)) : Em W K (tOp (rI C fun i j => .int (g i j)) ta tb) σ H (IsI P) :=
  em_op ha hb fun x y dx dy H1 e hx px hy py Q q => by
    obtain ⟨i, rfl, p1⟩ := px
    obtain ⟨j, rfl, p2⟩ := py
    cases dpI hx
    cases dpI hy
    exact ⟨i, j, rfl, rfl, (hc i j p1 p2).1, q _ _ H1 (.refl e.j) (.int _) ⟨_, rfl, (hc i j p1 p2).2⟩⟩
theorem em_opI0 {g : Int → Int → Int} {P1 P2 P : Int → Prop} (ha : Em W K ta σ H (IsI P1)) (hb : Em W K tb σ H (IsI P2)) (hc : ∀ i j, P1 i → P2 j → P (g i j)) : Em W K (tOp (rI0 fun i j => .int (g i j)) ta tb) σ H (IsI P) :=
  em_op ha hb fun x y dx dy H1 e hx px hy py Q q => by
    obtain ⟨i, rfl, p1⟩ := px
    obtain ⟨j, rfl, p2⟩ := py
    cases dpI hx
    cases dpI hy
    exact ⟨i, j, rfl, rfl, q _ _ H1 (.refl e.j) (.int _) ⟨_, rfl, hc i j p1 p2⟩⟩
theorem em_cmpI {g : Int → Int → Bool} {P1 P2 : Int → Prop} {P : Bool → Prop} (ha : Em W K ta σ H (IsI P1)) (hb : Em W K tb σ H (IsI P2)) (hc : ∀ i j, P1 i → P2 j → P (g i j)) : Em W K (tOp (rI0 fun i j => .bl (g i j)) ta tb) σ H (IsB P) :=
  em_op ha hb fun x y dx dy H1 e hx px hy py Q q => by
    obtain ⟨i, rfl, p1⟩ := px
    obtain ⟨j, rfl, p2⟩ := py
    cases dpI hx
    cases dpI hy
    exact ⟨i, j, rfl, rfl, q _ _ H1 (.refl e.j) (.bl _) ⟨_, rfl, hc i j p1 p2⟩⟩
theorem dec_intV (i j : Int) : decide (V.int i = V.int j) = decide (i = j) := by
  by_cases h : i = j
  · subst h; simp
  · rw [decide_eq_false h, decide_eq_false]
    intro q; injection q with q; exact h q
theorem dec_strV (i j : Str) : decide (V.str i = V.str j) = decide (i = j) := by
  by_cases h : i = j
  · subst h; simp
  · rw [decide_eq_false h, decide_eq_false]
    intro q; injection q with q; exact h q
theorem em_eqI {P1 P2 : Int → Prop} {P : Bool → Prop} (ha : Em W K ta σ H (IsI P1)) (hb : Em W K tb σ H (IsI P2)) (hc : ∀ i j, P1 i → P2 j → P (decide (i = j))) : Em W K (tOp rEq ta tb) σ H (IsB P) :=
  em_op ha hb fun x y dx dy H1 e hx px hy py Q q => by
    obtain ⟨i, rfl, p1⟩ := px
    obtain ⟨j, rfl, p2⟩ := py
    cases dpI hx
    cases dpI hy
    exact ⟨rfl, q _ _ H1 (.refl e.j) (.bl _) ⟨_, rfl, by rw [dec_intV]; exact hc i j p1 p2⟩⟩
theorem em_neI {P1 P2 : Int → Prop} {P : Bool → Prop} (ha : Em W K ta σ H (IsI P1)) (hb : Em W K tb σ H (IsI P2)) (hc : ∀ i j, P1 i → P2 j → P (!decide (i = j))) : Em W K (tOp rNe ta tb) σ H (IsB P) :=
  em_op ha hb fun x y dx dy H1 e hx px hy py Q q => by
    obtain ⟨i, rfl, p1⟩ := px
    obtain ⟨j, rfl, p2⟩ := py
    cases dpI hx
    cases dpI hy
    exact ⟨rfl, q _ _ H1 (.refl e.j) (.bl _) ⟨_, rfl, by rw [dec_intV]; exact hc i j p1 p2⟩⟩
theorem em_eqS {P1 P2 : Str → Prop} {P : Bool → Prop} (ha : Em W K ta σ H (IsS P1)) (hb : Em W K tb σ H (IsS P2)) (hc : ∀ i j, P1 i → P2 j → P (decide (i = j))) : Em W K (tOp rEq ta tb) σ H (IsB P) :=
  em_op ha hb fun x y dx dy H1 e hx px hy py Q q => by
    obtain ⟨i, rfl, p1⟩ := px
    obtain ⟨j, rfl, p2⟩ := py
    cases dpS hx
    cases dpS hy
    exact ⟨rfl, q _ _ H1 (.refl e.j) (.bl _) ⟨_, rfl, by rw [dec_strV]; exact hc i j p1 p2⟩⟩
theorem em_neB {P1 P2 : Bool → Prop} {P : Bool → Prop} (ha : Em W K ta σ H (IsB P1)) (hb : Em W K tb σ H (IsB P2)) (hc : ∀ i j, P1 i → P2 j → P (!decide (i = j))) : Em W K (tOp rNe ta tb) σ H (IsB P) :=
  em_op ha hb fun x y dx dy H1 e hx px hy py Q q => by
    obtain ⟨i, rfl, p1⟩ := px
    obtain ⟨j, rfl, p2⟩ := py
    cases dpB hx
    cases dpB hy
    have eq : decide (V.bl i = V.bl j) = decide (i = j) := by cases i <;> cases j <;> rfl
    exact ⟨rfl, q _ _ H1 (.refl e.j) (.bl _) ⟨_, rfl, by rw [eq]; exact hc i j p1 p2⟩⟩
theorem ema_nil {P : List PyData → Prop} (p : P []) : EmA W K tNil σ H P := fun H1 e _ q => q _ _ H1 (.refl e.j) .nil p
theorem ema_cons {tr : TA} {P : List PyData → Prop} (h : Em W K te σ H P1) (hr : ∀ d, P1 d → EmA W K tr σ H fun ds => P (d :: ds)) : EmA W K (tCons te tr) σ H P := fun H1 e _ q =>
  h H1 e _ fun v d H2 e2 hd p => hr d p H2 (e.trans e2) _ fun vs ds H3 e3 hds ps => q (v :: vs) (d :: ds) H3 (e2.trans e3) (.cons (e3.dp hd) hds) ps
theorem em_tup {ta : TA} (h : EmA W K ta σ H fun ds => ds.length ≤ 20000 ∧ P (.tuple ds)) : Em W K (tTup ta) σ H P := fun H1 e _ q => h H1 e _ fun vs ds H2 e2 hds p =>
  ⟨sz_of (by rw [dpAll_len hds]; omega), fun a ha => q (.ref a) (.tuple ds) (upd H2 a (.tup vs)) (e2.trans (.new e2.j ha)) (.tup (st_of (Wd.wo_at (Wd.notM e2.j ha) upd_same)) ((Wd.Le.new e2.j ha).dpAll hds)) p.2⟩
theorem em_lst {ta : TA} (h : EmA W K ta σ H fun ds => ds.length ≤ 20000 ∧ P (.list ds)) : Em W K (tLst ta) σ H P := fun H1 e _ q => h H1 e _ fun vs ds H2 e2 hds p =>
  ⟨sz_of (by rw [dpAll_len hds]; omega), fun a ha => q (.ref a) (.list ds) (upd H2 a (.lst vs)) (e2.trans (.new e2.j ha)) (.lst (sq_of (Wd.wo_at (Wd.notM e2.j ha) upd_same)) ((Wd.Le.new e2.j ha).dpAll hds)) p.2⟩
theorem sqL_wo {a : Addr} {xs : List V} (h : SqL K (W.wo H) a xs) : SqL K H a xs := Same.seq (W.wo_same H) h
theorem sqT_wo {a : Addr} {xs : List V} (h : SqT K (W.wo H) a xs) : SqT K H a xs := Same.seqT (W.wo_same H) h
theorem dp_atI {vs : List V} {ds : List PyData} {i : Int} {d : PyData} (h : DpAll K H vs ds) (e : atI ds i = some d) : ∃ v, atI vs i = some v ∧ Dp K H v d := by
  unfold atI at e ⊢
  rw [dpAll_len h]
  cases q : ixN ds.length i with
  | none => rw [q] at e; cases e
  | some j =>
    rw [q] at e
    exact dpAll_get' h e
/-- xs[i] of a list that the expression makes or names -/
theorem em_ixL {P1 : List PyData → Prop} {P2 : Int → Prop} (ha : Em W K ta σ H (IsLs P1)) (hb : Em W K tb σ H (IsI P2)) (hc : ∀ ds i, P1 ds → P2 i → ∃ d, atI ds i = some d ∧ P d) : Em W K (tOp (rIxL K) ta tb) σ H P :=
  em_op ha hb fun x y dx dy H1 e hx px hy py Q q => by
    obtain ⟨ds, rfl, p1⟩ := px
    obtain ⟨i, rfl, p2⟩ := py
    obtain ⟨a, xs, rfl, hs, hds⟩ := dpL hx
    cases dpI hy
    obtain ⟨d, hd, p⟩ := hc ds i p1 p2
    obtain ⟨v, hv, hdv⟩ := dp_atI hds hd
    exact ⟨a, xs, i, v, rfl, rfl, sqL_wo hs, hv, q v d H1 (.refl e.j) hdv p⟩
theorem em_ixT {P1 : List PyData → Prop} {P2 : Int → Prop} (ha : Em W K ta σ H (IsTp P1)) (hb : Em W K tb σ H (IsI P2)) (hc : ∀ ds i, P1 ds → P2 i → ∃ d, atI ds i = some d ∧ P d) : Em W K (tOp (rIxT K) ta tb) σ H P :=
  em_op ha hb fun x y dx dy H1 e hx px hy py Q q => by
    obtain ⟨ds, rfl, p1⟩ := px
    obtain ⟨i, rfl, p2⟩ := py
    obtain ⟨a, xs, rfl, hs, hds⟩ := dpT hx
    cases dpI hy
    obtain ⟨d, hd, p⟩ := hc ds i p1 p2
    obtain ⟨v, hv, hdv⟩ := dp_atI hds hd
    exact ⟨a, xs, i, v, rfl, rfl, sqT_wo hs, hv, q v d H1 (.refl e.j) hdv p⟩
/-- 'ab'[i] -/
theorem em_ixS {P1 : Str → Prop} {P2 : Int → Prop} {P : Str → Prop} (ha : Em W K ta σ H (IsS P1)) (hb : Em W K tb σ H (IsI P2)) (hc : ∀ s i, P1 s → P2 i → ∃ c, s.length ≤ 20000 ∧ atI s.cps.toList i = some c ∧ P ⟨#[c]⟩) : Em W K (tOp rIxS ta tb) σ H (IsS P) :=
  em_op ha hb fun x y dx dy H1 e hx px hy py Q q => by
    obtain ⟨s, rfl, p1⟩ := px
    obtain ⟨i, rfl, p2⟩ := py
    cases dpS hx
    cases dpI hy
    obtain ⟨c, hl, hc, p⟩ := hc s i p1 p2
    exact ⟨s, i, c, rfl, rfl, sz_of (by omega), hc, q _ _ H1 (.refl e.j) (.str _) ⟨_, rfl, p⟩⟩
/-- tests -/
theorem emt_test {P : Bool → Prop} (h : Em W K te σ H (IsB P)) : EmT W (tTest te) σ H P := fun H1 e Q q => h H1 e _ fun v d H2 e2 hd p => by
  obtain ⟨b, rfl, pb⟩ := p
  cases dpB hd
  exact ⟨b, rfl, q b H2 e2 pb⟩
theorem emt_B {P : Bool → Prop} (h : Em W K te σ H (IsB P)) : EmT W (tB te) σ H P := fun H1 e Q q => h H1 e _ fun v d H2 e2 hd p => by
  obtain ⟨b, rfl, pb⟩ := p
  cases dpB hd
  exact ⟨b, rfl, q b H2 e2 pb⟩
theorem emt_not {P : Bool → Prop} (h : EmT W t σ H fun b => P (!b)) : EmT W (tNot t) σ H P := fun H1 e _ q => h H1 e _ fun b H2 e2 p => q (!b) H2 e2 p
theorem emt_and {P1 P : Bool → Prop} (h1 : EmT W t σ H P1) (h2 : P1 true → EmT W u σ H P) (h3 : P1 false → P false) : EmT W (tAnd t u) σ H P := fun H1 e Q q => h1 H1 e _ fun b H2 e2 p => by
  cases b with
  | true =>
    refine iteT (h2 p H2 (e.trans e2) Q fun b H3 e3 p3 => q b H3 (e2.trans e3) p3)
  | false => exact iteF (q false H2 e2 (h3 p))
theorem emt_or {P1 P : Bool → Prop} (h1 : EmT W t σ H P1) (h2 : P1 false → EmT W u σ H P) (h3 : P1 true → P true) : EmT W (tOr t u) σ H P := fun H1 e Q q => h1 H1 e _ fun b H2 e2 p => by
  cases b with
  | true => exact iteT (q true H2 e2 (h3 p))
  | false => exact iteF (h2 p H2 (e.trans e2) Q fun b H3 e3 p3 => q b H3 (e2.trans e3) p3)
theorem em_if {P1 : Bool → Prop} (h : EmT W t σ H P1) (h1 : P1 true → Em W K ta σ H P) (h2 : P1 false → Em W K tb σ H P) : Em W K (tIf t ta tb) σ H P := fun H1 e Q q => h H1 e _ fun b H2 e2 p => by
  cases b with
  | true => exact iteT (h1 p H2 (e.trans e2) Q fun v d H3 e3 hd p3 => q v d H3 (e2.trans e3) hd p3)
  | false => exact iteF (h2 p H2 (e.trans e2) Q fun v d H3 e3 hd p3 => q v d H3 (e2.trans e3) hd p3)
theorem em_andV {P1 P : Bool → Prop} (h1 : Em W K ta σ H (IsB P1)) (h2 : P1 true → Em W K tb σ H (IsB P)) (h3 : P1 false → P false) : Em W K (tAndV ta tb) σ H (IsB P) := fun H1 e Q q => h1 H1 e _ fun v d H2 e2 hd p => by
  obtain ⟨b, rfl, pb⟩ := p
  cases dpB hd
  refine ⟨b, rfl, ?_⟩
  cases b with
  | true => exact iteT (h2 pb H2 (e.trans e2) Q fun v d H3 e3 hd p3 => q v d H3 (e2.trans e3) hd p3)
  | false => exact iteF (q _ _ H2 e2 (.bl false) ⟨false, rfl, h3 pb⟩)
/-- statements -/
theorem m_asg {i : Nat} (j : W.J H) (h : Em W K te σ H P) (k : ∀ v d H1, W.Le H H1 → Dp K (W.wo H1) v d → P d → tz D (σ.set i (some v)) H1) : tSeq (tAsg te (gName i)) tz D σ H := h H (.refl j) _ fun v d H1 e hd p => k v d H1 e hd p
theorem m_set {i : Nat} (j : W.J H) (h : Em W K te σ H P) (k : ∀ v d H1, W.Le H H1 → Dp K (W.wo H1) v d → P d → D.nx (σ.set i (some v)) H1) : tAsg te (gName i) D σ H := h H (.refl j) _ fun v d H1 e hd p => k v d H1 e hd p
theorem m_ret (j : W.J H) (h : Em W K te σ H P) (k : ∀ v d H1, W.Le H H1 → Dp K (W.wo H1) v d → P d → D.rt v H1) : tRet te D σ H := h H (.refl j) _ fun v d H1 e hd p => k v d H1 e hd p
theorem m_if {P : Bool → Prop} (j : W.J H) (h : EmT W t σ H P) (h1 : P true → ∀ H1, W.Le H H1 → tu { D with nx := tz D } σ H1) (h2 : P false → ∀ H1, W.Le H H1 → tw { D with nx := tz D } σ H1) : tSeq (tIfS t tu tw) tz D σ H := h H (.refl j) _ fun b H1 e p => by
  cases b with
  | true => exact iteT (h1 p H1 e)
  | false => exact iteF (h2 p H1 e)
theorem m_when {P : Bool → Prop} (j : W.J H) (h : EmT W t σ H P) (h1 : P true → ∀ H1, W.Le H H1 → tu { D with nx := tz D } σ H1) (h2 : P false → ∀ H1, W.Le H H1 → tz D σ H1) : tSeq (tIfS t tu tNext) tz D σ H := m_if j h h1 h2
theorem m_ifL {P : Bool → Prop} (j : W.J H) (h : EmT W t σ H P) (h1 : P true → ∀ H1, W.Le H H1 → tu D σ H1) (h2 : P false → ∀ H1, W.Le H H1 → tw D σ H1) : tIfS t tu tw D σ H := h H (.refl j) _ fun b H1 e p => by
  cases b with
  | true => exact iteT (h1 p H1 e)
  | false => exact iteF (h2 p H1 e)
end
end Nt
namespace Nt
open PySem PySem.Spec PyProof.Rows L2 Evl
/-! ### one more changing object: at p stands o -/
def Wd.plus (W : Wd) (p : Addr) (o : HO) : Wd where
  M := fun a => W.M a || a == p
  J := fun H => W.J H ∧ H p = some o
  live := fun H a ⟨j, h⟩ e => by
    rcases Bool.or_eq_true_iff.mp e with q | q
    · exact W.live H a j q
    · rw [eq_of_beq q, h]; exact fun z => nomatch z
  loc := fun H H' ⟨j, h⟩ k => ⟨W.loc H H' j fun a ha => k a (by rw [ha]; rfl), by rw [k p (by rw [beq_self_eq_true, Bool.or_true])]; exact h⟩
theorem Wd.plus_wo {W : Wd} {p : Addr} {ob : HO} {H : Hp} {a : Addr} {o : HO} (h : (W.plus p ob).wo H a = some o) : W.wo H a = some o ∧ a ≠ p := by
  unfold Wd.wo Wd.plus at h
  dsimp only at h
  by_cases hm : (W.M a || a == p) = true
  · rw [if_pos hm] at h; cases h
  · rw [if_neg hm] at h
    have h1 : W.M a = false := by
      cases q : W.M a with
      | false => rfl
      | true => rw [q] at hm; exact absurd rfl hm
    have h2 : a ≠ p := fun q => hm (by rw [q, beq_self_eq_true, Bool.or_true])
    refine ⟨?_, h2⟩
    unfold Wd.wo
    rw [if_neg (by rw [h1]; exact Bool.false_ne_true)]
    exact h
theorem Wd.wo_plus {W : Wd} {p : Addr} {ob : HO} {H : Hp} {a : Addr} {o : HO} (h : W.wo H a = some o) (hn : a ≠ p) : (W.plus p ob).wo H a = some o := by
  unfold Wd.wo at h
  by_cases hm : W.M a = true
  · rw [if_pos hm] at h; cases h
  · rw [if_neg hm] at h
    unfold Wd.wo Wd.plus
    dsimp only
    rw [if_neg]
    · exact h
    · intro q
      rcases Bool.or_eq_true_iff.mp q with q | q
      · exact hm q
      · exact hn (eq_of_beq q)
theorem Wd.plus_same {W : Wd} {p : Addr} {ob : HO} {H : Hp} : Same ((W.plus p ob).wo H) (W.wo H) := fun _ _ h => (Wd.plus_wo h).1
theorem Wd.same_plus {W : Wd} {p : Addr} {ob : HO} {H : Hp} (h : H p = none) : Same (W.wo H) ((W.plus p ob).wo H) := fun a u e => by
  refine Wd.wo_plus e fun q => ?_
  rw [q] at e
  have := W.wo_same H p u e
  rw [h] at this; cases this
theorem Wd.wo_upd {W : Wd} {p : Addr} {ob o : HO} {H : Hp} : Same ((W.plus p ob).wo H) ((W.plus p ob).wo (upd H p o)) := fun a u h => by
  obtain ⟨h1, hn⟩ := Wd.plus_wo h
  refine Wd.wo_plus ?_ hn
  unfold Wd.wo at h1 ⊢
  split at h1
  · cases h1
  · rename_i q
    rw [if_neg q, upd_ne hn]
    exact h1
theorem Wd.plus_j {W : Wd} {p : Addr} {H : Hp} {o : HO} (j : W.J H) (hm : W.M p = false) : (W.plus p o).J (upd H p o) := by
  refine ⟨W.loc H _ j fun a ha => ?_, upd_same⟩
  rw [upd_ne]
  intro q
  rw [q, hm] at ha
  cases ha
/-- out of the larger one: p was not there -/
theorem Wd.of_plus {W : Wd} {p : Addr} {ob : HO} {H H2 : Hp} (hp : H p = none) (j : W.J H2) (s : Same ((W.plus p ob).wo H) ((W.plus p ob).wo H2)) : W.Le H H2 :=
  ⟨fun a u h => Wd.plus_same a u (s a u (Wd.same_plus hp a u h)), j⟩
section
variable {W : Wd} {K : PySem.W.Frag} {σ : L2.St} {H H' : Hp} {te ta tb tc : TE} {P P1 P2 P3 : PyData → Prop} {t u : TT} {D : Ends} {tu tw tz : TS}
theorem m_forR {ta : TA} {j : Nat} {Pn : Int → Prop} (jH : W.J H) (h : EmA W K ta σ H fun ds => ∃ n, ds = [.int n] ∧ Pn n) (hn : ∀ n, Pn n → -100000 ≤ n ∧ n ≤ 100000) (Pv : Int → Nat → L2.St → Hp → Prop) (h0 : ∀ n H1, Pn n → W.Le H H1 → Pv n 0 σ H1)
    (hs : ∀ n (i : Nat) σ' H', Pn n → (i : Int) < n → Pv n i σ' H' → tu { D with nx := Pv n (i + 1), ct := Pv n (i + 1), bk := tz D } (σ'.set j (some (.int (i : Int)))) H') (hd : ∀ n σ' H', Pn n → Pv n n.toNat σ' H' → tz D σ' H') : tSeq (tFor (iRng1 ta) (gName j) tu) tz D σ H :=
  h H (.refl jH) _ fun vs ds H1 e hds p => by
    obtain ⟨n, rfl, pn⟩ := p
    obtain ⟨x, rfl⟩ := (show ∃ x, vs = [x] by
      cases hds with
      | cons h1 h2 => cases h2; exact ⟨_, rfl⟩)
    have hx : x = .int n := by
      cases hds with
      | cons h1 h2 => exact dpI h1
    subst hx
    refine ⟨n, rfl, by have := hn n pn; omega, by have := hn n pn; omega, for_range (D := { D with nx := tz D }) (lo := 0) (n := n.toNat) (Pv n) (h0 n H1 pn e) (fun i σ' H' hi p => ?_) fun σ' H' p => hd n σ' H' pn p⟩
    have e0 : (0 : Int) + (i : Int) = (i : Int) := Int.zero_add _
    show tu { D with nx := Pv n (i + 1), ct := Pv n (i + 1), bk := tz D } (σ'.set j (some (.int ((0 : Int) + (i : Int))))) H'
    rw [e0]
    exact hs n i σ' H' pn (by omega) p
/-- [e for j in range(n)], e may draw -/
theorem em_lcR {ta : TA} {j : Nat} {vs : List Nat} {Pn : Int → Prop} {Pe : PyData → Prop} (h : EmA W K ta σ H fun ds => ∃ n, ds = [.int n] ∧ Pn n) (hn : ∀ n, Pn n → -20000 ≤ n ∧ n ≤ 20000) (hw : ∀ x, wipe ((wipe σ vs).set j (some x)) vs = wipe σ vs)
    (he : ∀ n (i : Nat) p acc H1, Pn n → (i : Int) < n → W.M p = false → Same (W.wo H) ((W.plus p (.lst acc)).wo H1) → (W.plus p (.lst acc)).J H1 → Em (W.plus p (.lst acc)) K te ((wipe σ vs).set j (some (.int (i : Int)))) H1 Pe) :
    Em W K (tLc (iRng1 ta) (gName j) tYes te vs) σ H (IsLs fun ds => ∃ n, Pn n ∧ ds.length = n.toNat ∧ ∀ d, d ∈ ds → Pe d) := fun H0 e Q q => h H0 e _ fun us ds H1 e1 hds p => by
  obtain ⟨n, rfl, pn⟩ := p
  obtain ⟨x, rfl⟩ := (show ∃ x, us = [x] by
    cases hds with
    | cons h1 h2 => cases h2; exact ⟨_, rfl⟩)
  have hx : x = .int n := by
    cases hds with
    | cons h1 h2 => exact dpI h1
  subst hx
  have hb := hn n pn
  refine ⟨n, rfl, by omega, by omega, fun Dl hD => ?_⟩
  have hm := Wd.notM e1.j hD
  refine lc_range (lo := 0) (n := n.toNat) (fun i H' => Same ((W.plus Dl (.lst [])).wo H1) ((W.plus Dl (.lst [])).wo H') ∧ W.J H' ∧ ∃ acc es, H' Dl = some (.lst acc) ∧ DpAll K ((W.plus Dl (.lst [])).wo H') acc es ∧ es.length = i ∧ ∀ d, d ∈ es → Pe d)
    ⟨Wd.wo_upd, (Wd.plus_j (o := .lst []) e1.j hm).1, [], [], upd_same, .nil, rfl, fun d hd => by cases hd⟩ (fun i H' hi pp => ⟨hw _, ?_⟩) fun H' pp => ?_
  · obtain ⟨sm, jj, acc, es, h1, h2, h3, h4⟩ := pp
    dsimp only [tYes]
    rw [if_pos rfl]
    have e0 : (0 : Int) + (i : Int) = (i : Int) := Int.zero_add _
    rw [e0]
    have sm0 : Same (W.wo H) ((W.plus Dl (.lst acc)).wo H') := (e.trans e1).s.trans ((Wd.same_plus hD).trans sm)
    refine he n i Dl acc H' pn (by omega) hm sm0 ⟨jj, h1⟩ H' (.refl ⟨jj, h1⟩) _ fun v d H2 e2 hd pd => ?_
    refine ⟨acc, e2.j.2, sz_lt (by rw [dpAll_len h2, h3]; omega), sm.trans (e2.s.trans Wd.wo_upd), (Wd.plus_j (o := .lst (acc ++ [v])) e2.j.1 hm).1, acc ++ [v], es ++ [d], upd_same, ?_, by rw [List.length_append, h3]; rfl, fun x hx => ?_⟩
    · exact dpAll_mono Wd.wo_upd (dpAll_append (dpAll_mono e2.s h2) (.cons hd .nil))
    · rcases List.mem_append.mp hx with hx | hx
      · exact h4 x hx
      · rw [List.mem_singleton.mp hx]; exact pd
  · obtain ⟨sm, jj, acc, es, h1, h2, h3, h4⟩ := pp
    exact q (.ref Dl) (.list es) H' (e1.trans (Wd.of_plus hD jj sm)) (.lst (sq_of (Wd.wo_at hm h1)) (dpAll_mono Wd.plus_same h2)) ⟨es, rfl, n, pn, h3, h4⟩
/-- len, tuple(..), slices, + of data -/
theorem em_lenT {P1 : List PyData → Prop} {P : Int → Prop} (h : Em W K te σ H (IsTp P1)) (hp : ∀ ds, P1 ds → P ds.length) : Em W K (tCB (rLenS K) (tCons te tNil)) σ H (IsI P) := fun H1 e Q q => h H1 e _ fun v d H2 e2 hd p => by
  obtain ⟨ds, rfl, p1⟩ := p
  obtain ⟨a, xs, rfl, hs, hds⟩ := dpT hd
  exact ⟨a, xs, rfl, .inr (sqT_wo hs), q _ _ H2 e2 (.int _) ⟨_, rfl, by rw [dpAll_len hds]; exact hp ds p1⟩⟩
theorem em_lenL {P1 : List PyData → Prop} {P : Int → Prop} (h : Em W K te σ H (IsLs P1)) (hp : ∀ ds, P1 ds → P ds.length) : Em W K (tCB (rLenS K) (tCons te tNil)) σ H (IsI P) := fun H1 e Q q => h H1 e _ fun v d H2 e2 hd p => by
  obtain ⟨ds, rfl, p1⟩ := p
  obtain ⟨a, xs, rfl, hs, hds⟩ := dpL hd
  exact ⟨a, xs, rfl, .inl (sqL_wo hs), q _ _ H2 e2 (.int _) ⟨_, rfl, by rw [dpAll_len hds]; exact hp ds p1⟩⟩
def rTupO (K : PySem.W.Frag) : List V → Hp → VK → Prop := fun xs H Q => ∃ p ys, xs = [.ref p] ∧ ((SqL K H p ys ∧ ∀ l, H l = none → Q (.ref l) (upd H l (.tup ys))) ∨ (SqT K H p ys ∧ Q (.ref p) H))
/-- tuple(list) -/
theorem em_tupL {P1 : List PyData → Prop} (h : Em W K te σ H (IsLs P1)) (hp : ∀ ds, P1 ds → P (.tuple ds)) : Em W K (tCB (rTupO K) (tCons te tNil)) σ H P := fun H1 e Q q => h H1 e _ fun v d H2 e2 hd p => by
  obtain ⟨ds, rfl, p1⟩ := p
  obtain ⟨a, xs, rfl, hs, hds⟩ := dpL hd
  refine ⟨a, xs, rfl, .inl ⟨sqL_wo hs, fun l hl => ?_⟩⟩
  exact q (.ref l) (.tuple ds) (upd H2 l (.tup xs)) (e2.trans (.new e2.j hl)) (.tup (st_of (Wd.wo_at (Wd.notM e2.j hl) upd_same)) ((Wd.Le.new e2.j hl).dpAll hds)) (hp ds p1)
/-- list(list), list(tuple) -/
theorem em_lstL {P1 : List PyData → Prop} (h : Em W K te σ H (IsLs P1)) (hp : ∀ ds, P1 ds → P (.list ds)) : Em W K (tCB (rListS K) (tCons te tNil)) σ H P := fun H1 e Q q => h H1 e _ fun v d H2 e2 hd p => by
  obtain ⟨ds, rfl, p1⟩ := p
  obtain ⟨a, xs, rfl, hs, hds⟩ := dpL hd
  refine ⟨a, xs, rfl, .inl (sqL_wo hs), fun l hl => ?_⟩
  exact q (.ref l) (.list ds) (upd H2 l (.lst xs)) (e2.trans (.new e2.j hl)) (.lst (sq_of (Wd.wo_at (Wd.notM e2.j hl) upd_same)) ((Wd.Le.new e2.j hl).dpAll hds)) (hp ds p1)
theorem em_lstT {P1 : List PyData → Prop} (h : Em W K te σ H (IsTp P1)) (hp : ∀ ds, P1 ds → P (.list ds)) : Em W K (tCB (rListS K) (tCons te tNil)) σ H P := fun H1 e Q q => h H1 e _ fun v d H2 e2 hd p => by
  obtain ⟨ds, rfl, p1⟩ := p
  obtain ⟨a, xs, rfl, hs, hds⟩ := dpT hd
  refine ⟨a, xs, rfl, .inr (sqT_wo hs), fun l hl => ?_⟩
  exact q (.ref l) (.list ds) (upd H2 l (.lst xs)) (e2.trans (.new e2.j hl)) (.lst (sq_of (Wd.wo_at (Wd.notM e2.j hl) upd_same)) ((Wd.Le.new e2.j hl).dpAll hds)) (hp ds p1)
/-- the data of a slice -/
def cutD (ds : List PyData) (lo hi : Option Int) : List PyData := (ds.drop (HT.sIx ds.length 0 lo)).take (HT.sIx ds.length ds.length hi - HT.sIx ds.length 0 lo)
theorem dp_cut {H : Hp} {xs : List V} {ds : List PyData} (h : DpAll K H xs ds) (lo hi : Option Int) : DpAll K H (cutV xs lo hi) (cutD ds lo hi) := by
  unfold cutV cutD
  rw [dpAll_len h]
  exact dpAll_take _ (dpAll_drop _ h)
def EmO (W : Wd) (to : TO) (σ : L2.St) (H : Hp) (P : Option Int → Prop) : Prop := ∀ H1, W.Le H H1 → ∀ Q : Option Int → Hp → Prop, (∀ o H2, W.Le H1 H2 → P o → Q o H2) → to σ H1 Q
theorem emo_none {P : Option Int → Prop} (p : P none) : EmO W tNoPart σ H P := fun H1 e _ q => q none H1 (.refl e.j) p
theorem emo_some {P1 : Int → Prop} {P : Option Int → Prop} (h : Em W K te σ H (IsI P1)) (hp : ∀ i, P1 i → P (some i)) : EmO W (tPart te) σ H P := fun H1 e _ q => h H1 e _ fun v d H2 e2 hd p => by
  obtain ⟨i, rfl, pi⟩ := p
  cases dpI hd
  exact ⟨i, rfl, q (some i) H2 e2 (hp i pi)⟩
theorem em_slL {tl th : TO} {P1 : List PyData → Prop} {Pl Ph : Option Int → Prop} (h : Em W K te σ H (IsLs P1)) (hl : EmO W tl σ H Pl) (hh : EmO W th σ H Ph) (hp : ∀ ds lo hi, P1 ds → Pl lo → Ph hi → P (.list (cutD ds lo hi))) : Em W K (tSl (rSlL K) te tl th) σ H P := fun H1 e Q q => h H1 e _ fun v d H2 e2 hd p =>
  hl H2 (e.trans e2) _ fun lo H3 e3 p3 => hh H3 (e.trans (e2.trans e3)) _ fun hi H4 e4 p4 => by
    obtain ⟨ds, rfl, p1⟩ := p
    obtain ⟨a, xs, rfl, hs, hds⟩ := dpL ((e3.trans e4).dp hd)
    refine ⟨a, xs, rfl, sqL_wo hs, fun l hl => ?_⟩
    exact q (.ref l) _ (upd H4 l (.lst (cutV xs lo hi))) (e2.trans (e3.trans (e4.trans (.new e4.j hl)))) (.lst (sq_of (Wd.wo_at (Wd.notM e4.j hl) upd_same)) ((Wd.Le.new e4.j hl).dpAll (dp_cut hds lo hi))) (hp ds lo hi p1 p3 p4)
theorem em_slT {tl th : TO} {P1 : List PyData → Prop} {Pl Ph : Option Int → Prop} (h : Em W K te σ H (IsTp P1)) (hl : EmO W tl σ H Pl) (hh : EmO W th σ H Ph) (hp : ∀ ds lo hi, P1 ds → Pl lo → Ph hi → P (.tuple (cutD ds lo hi))) : Em W K (tSl (rSlA K) te tl th) σ H P := fun H1 e Q q => h H1 e _ fun v d H2 e2 hd p =>
  hl H2 (e.trans e2) _ fun lo H3 e3 p3 => hh H3 (e.trans (e2.trans e3)) _ fun hi H4 e4 p4 => by
    obtain ⟨ds, rfl, p1⟩ := p
    obtain ⟨a, xs, rfl, hs, hds⟩ := dpT ((e3.trans e4).dp hd)
    refine ⟨a, xs, rfl, sqT_wo hs, fun hw => ?_, fun _ l hl => ?_⟩
    · have e0 : cutD ds lo hi = ds := by
        unfold cutD
        rw [← dpAll_len hds, hw.1, hw.2, Nat.sub_zero, List.drop_zero, dpAll_len hds, List.take_length]
      refine q (.ref a) (.tuple ds) H4 (e2.trans (e3.trans e4)) (.tup hs hds) ?_
      have := hp ds lo hi p1 p3 p4
      rw [e0] at this
      exact this
    · exact q (.ref l) _ (upd H4 l (.tup (cutV xs lo hi))) (e2.trans (e3.trans (e4.trans (.new e4.j hl)))) (.tup (st_of (Wd.wo_at (Wd.notM e4.j hl) upd_same)) ((Wd.Le.new e4.j hl).dpAll (dp_cut hds lo hi))) (hp ds lo hi p1 p3 p4)
/-- t + u -/
theorem em_catT {P1 P2 : List PyData → Prop} (ha : Em W K ta σ H (IsTp P1)) (hb : Em W K tb σ H (IsTp P2)) (hp : ∀ ds es, P1 ds → P2 es → ds.length + es.length ≤ 20000 ∧ P (.tuple (ds ++ es))) : Em W K (tOp (rCatA K) ta tb) σ H P :=
  em_op ha hb fun x y dx dy H1 e hx px hy py Q q => by
    obtain ⟨ds, rfl, p1⟩ := px
    obtain ⟨es, rfl, p2⟩ := py
    obtain ⟨a, xs, rfl, hs, hds⟩ := dpT hx
    obtain ⟨b, ys, rfl, hs2, hds2⟩ := dpT hy
    obtain ⟨hl, hP⟩ := hp ds es p1 p2
    refine ⟨a, b, xs, ys, rfl, rfl, sqT_wo hs, sqT_wo hs2, sz_of (by rw [dpAll_len hds, dpAll_len hds2]; omega), fun h0 => ?_, fun _ h0 => ?_, fun _ _ p hp => ?_⟩
    · subst h0
      cases hds
      exact q _ _ H1 (.refl e.j) (.tup hs2 hds2) hP
    · subst h0
      cases hds2
      rw [List.append_nil] at hP
      exact q _ _ H1 (.refl e.j) (.tup hs hds) hP
    · exact q _ _ _ (.new e.j hp) (.tup (st_of (Wd.wo_at (Wd.notM e.j hp) upd_same)) ((Wd.Le.new e.j hp).dpAll (dpAll_append hds hds2))) hP
end
end Nt
namespace Nt
open PySem PySem.Spec PyProof.Rows L2 Evl
theorem rc_max {H : Hp} {i j : Int} : RC (fun xs H Q => ∃ i j, xs = [V.int i, V.int j] ∧ Q (.int (if j > i then j else i)) H) [.int i, .int j] H (.int (if j > i then j else i)) := fun H1 _ _ q => ⟨i, j, rfl, q H1 (Ex.refl H1)⟩
theorem rc_min {H : Hp} {i j : Int} : RC (fun xs H Q => ∃ i j, xs = [V.int i, V.int j] ∧ Q (.int (if j < i then j else i)) H) [.int i, .int j] H (.int (if j < i then j else i)) := fun H1 _ _ q => ⟨i, j, rfl, q H1 (Ex.refl H1)⟩
/-- a pure def's call on data -/
theorem em_pure1 {W : Wd} {K : PySem.W.Frag} {σ : L2.St} {H : Hp} {te : TE} {E : XK} {sp : Sp} {P1 : PyData → Prop} {P : PyData → Prop} (h : Em W K te σ H P1) (hs : ∀ v d H1, W.Le H H1 → Dp K (W.wo H1) v d → P1 d → ∃ z dz, SpV sp [v] H1 z ∧ (∀ H2, Dp K H2 z dz) ∧ P dz) : Em W K (tCall sp [] E (tCons te tNil)) σ H P := fun H1 e Q q =>
  h H1 e _ fun v d H2 e2 hd p => by
    obtain ⟨z, dz, h1, h2, h3⟩ := hs v d H2 (e.trans e2) hd p
    exact h1 H2 (Ex.refl _) _ (fun H3 e3 => q z dz H3 (e2.trans (.of_same e2.j e3)) (h2 _) h3) E
theorem em_isi {W : Wd} {K : PySem.W.Frag} {σ : L2.St} {H : Hp} {te : TE} {n : String} {P1 : PyData → Prop} {P : Bool → Prop} (h : Em W K te σ H P1) (hp : ∀ d, P1 d → ∃ b, kitB (tyN d) n = some b ∧ P b) : Em W K (tCB (rIsi K) (tCons te (tCons (tC (.ty n)) tNil))) σ H (IsB P) := fun H1 e Q q => h H1 e _ fun v d H2 e2 hd p => by
  obtain ⟨b, hb, pb⟩ := hp d p
  exact isi_d (Wd.dp hd) hb H2 (Ex.refl _) Q fun H3 e3 => q _ _ H3 (e2.trans (.of_same e2.j e3)) (.bl b) ⟨b, rfl, pb⟩
theorem cut_pre (ds : List PyData) (n : Nat) : cutD ds none (some (n : Int)) = ds.take n := by
  unfold cutD
  rw [HT.sIx_nat, HT.sIx_none, List.drop_zero, Nat.sub_zero]
  by_cases h : n ≤ ds.length
  · rw [Nat.min_eq_left h]
  · rw [Nat.min_eq_right (by omega), List.take_length, List.take_of_length_le (by omega)]
theorem cut_suf (ds : List PyData) (n : Nat) : cutD ds (some (n : Int)) none = ds.drop n := by
  unfold cutD
  rw [HT.sIx_nat, HT.sIx_none]
  by_cases h : n ≤ ds.length
  · rw [Nat.min_eq_left h, List.take_of_length_le]
    rw [List.length_drop]
    exact Nat.le_refl _
  · rw [Nat.min_eq_right (by omega), Nat.sub_self, List.take_zero, List.drop_of_length_le (by omega)]
theorem em_is {W : Wd} {K : PySem.W.Frag} {σ : L2.St} {H : Hp} {i : Nat} {v : V} {d : PyData} (h : σ[i]? = some (some v)) (hd : Dp K (W.wo H) v d) : Em W K (tVar i) σ H (fun x => x = d) := em_var h hd rfl
theorem rc_abs {H : Hp} {i : Int} : RC (fun xs H Q => ∃ i, xs = [V.int i] ∧ Q (.int (if i < 0 then -i else i)) H) [.int i] H (.int (if i < 0 then -i else i)) := fun H1 _ _ q => ⟨i, rfl, q H1 (Ex.refl H1)⟩
theorem rc_intB {H : Hp} {b : Bool} : RC (fun xs H Q => (∃ i, xs = [V.int i] ∧ Q (.int i) H) ∨ ∃ k, xs = [V.bl k] ∧ Q (.int (if k then 1 else 0)) H) [.bl b] H (.int (if b then 1 else 0)) := fun H1 _ _ q => .inr ⟨b, rfl, q H1 (Ex.refl H1)⟩
theorem ok20 {n : Nat} (h : Nat.ble n 20000 = true := by rfl) : n ≤ 20000 := Nat.le_of_ble_eq_true h
theorem at_two {d0 d1 : PyData} {P : PyData → Prop} {i : Int} (h : 0 ≤ i ∧ i < 2) (h0 : P d0) (h1 : P d1) : ∃ d, atI [d0, d1] i = some d ∧ P d := by
  have h2 : i = 0 ∨ i = 1 := by omega
  rcases h2 with rfl | rfl
  · exact ⟨d0, atI_nat (j := 0) rfl, h0⟩
  · exact ⟨d1, atI_nat (j := 1) rfl, h1⟩
theorem at_three {d0 d1 d2 : PyData} {P : PyData → Prop} {i : Int} (h : 0 ≤ i ∧ i < 3) (h0 : P d0) (h1 : P d1) (h2 : P d2) : ∃ d, atI [d0, d1, d2] i = some d ∧ P d := by
  have h3 : i = 0 ∨ i = 1 ∨ i = 2 := by omega
  rcases h3 with rfl | rfl | rfl
  · exact ⟨d0, atI_nat (j := 0) rfl, h0⟩
  · exact ⟨d1, atI_nat (j := 1) rfl, h1⟩
  · exact ⟨d2, atI_nat (j := 2) rfl, h2⟩
theorem m_asg1 {W : Wd} {K : PySem.W.Frag} {σ : L2.St} {H : Hp} {te : TE} {P : PyData → Prop} {D : Ends} {tz : TS} {i : Nat} (j : W.J H) (h : Em W K te σ H P) (k : ∀ v d H1 p, W.Le H H1 → Dp K (W.wo H1) v d → P d → H1 p = none → tz D (σ.set i (some (.ref p))) (upd H1 p (.lst [v]))) : tSeq (tAsg (tLst (tCons te tNil)) (gName i)) tz D σ H :=
  h H (.refl j) _ fun v d H1 e hd pd => ⟨sz_of (by show 1 ≤ 100000; decide), fun p hp => k v d H1 p e hd pd hp⟩
end Nt

namespace Nt
open PySem PySem.Spec PyProof.Rows L2
/-! ### exceptions that were raised where nothing is handled: their context is None -/
theorem passL {X : Cx} : Passes (L2N.CX X.prog X.w) X E0 := fun _ _ _ _ _ _ _ h => by
  obtain ⟨_, _, _, _, _, _, _, _, _, _, _, _, z⟩ := h
  exact z.elim
theorem takes0 {X : Cx} : L2N.Takes X (fun _ _ _ _ => False) := fun _ _ x => by
  obtain ⟨_, _, _, _, _, _, _, _, _, _, _, _, _, _, _, _, z⟩ := x
  exact z.elim
/-! ### own exceptions made without arguments; isinstance of a caught one by several classes -/
section
variable {X : Cx} {C : Addr} {bmB : List Value} {B newId initId : String}
/-- X() -/
theorem pmk_own0 {x : Str} {p pos : Pos} (F : ExcBaseFacts B newId initId bmB) (q : PySem.W.excIn X.K C bmB newId = true) (gC : X.mg x = some (.ref C)) (kC : PySem.W.keepIn X.K (.ref C) = true) (r : Raises X (.ref C)) (hg : Gl X x)
    (hdb : (x == ("__debug__" : Str)) = false := by decide) : L2N.PMk X (.Call (.Name x p) [] [] pos) (fun _ H Q => Q (.ref C) none H) := by
  intro pins s σ H Q I h
  refine wpAny_Call_Name_kw (ld_glob I hg gC ?_ hdb)
  refine PySem.W.callWith_K0 I.kIn kC ?_
  show wpAny _ _ (call (.ref C) []) _ _ _
  obtain ⟨bm, N, nm, qn, bs, hdct, sn, sub, ab, col, dd, k0, k1, k2, k3, k5, mN, hC, hN, hni, T⟩ := exc_obj I.kIn q
  refine wpAny_call_exc_subT F T hC hN hni (fun h' e hm => ?_) (by show 0 ≤ sizeLine; exact Nat.zero_le _)
  exact L2N.mk_of I hm r h (I.hok.gone hm.new)
end
/-- isinstance(e, (C, ..)), e the exception that the suite holds -/
def rIsET (K : PySem.W.Frag) (D a : Addr) : List V → Hp → VK → Prop := fun xs H Q => ∃ (tp : Addr) (cs : List V) (us : List Value) (b : Bool), xs = [.ref a, .ref tp] ∧ H tp = some (.tup cs) ∧ Paired ClsV cs us ∧ PySem.W.kitAny K (.ref D) us = some b ∧ Q (.bl b) H
theorem call_isET {X : Cx} {a D : Addr} {oe : Obj} {pn : List (Addr × Obj)} (C : ExcC X.K D) (hz : Zc (.ref D) none oe) (hf : ∃ vs, oe.data = .fields vs) : CallR (X.suite a ((a, oe) :: pn)) (.builtin "isinstance") (rIsET X.K D a) := by
  intro pins s σ H xs us Q I r h
  obtain ⟨tp, cs, ws, b, rfl, hT, k, e, q⟩ := h
  obtain ⟨u1, u2, rfl, r1, r2⟩ := vals2 r
  cases (show u2 = Value.ref tp from r2)
  cases (show u1 = Value.ref a from r1)
  obtain ⟨hget, _⟩ := I.pin (a, oe) (List.mem_append.mpr (.inl List.mem_cons_self))
  obtain ⟨vs, hv⟩ := hf
  have J : PySem.W.InstAt s.heap a oe D none := by
    obtain ⟨oc, od, oda, osl⟩ := oe
    obtain ⟨h1, h2⟩ := hz
    dsimp only at h1 h2 hv
    subst h1 h2 hv
    exact ⟨hget, rfl, rfl, trivial⟩
  obtain ⟨_, its, rv, o, h1, h2, n, h3⟩ := (show ObjOk X.prog X.w H s.heap tp (.tup cs) from I.hok tp _ hT)
  have e3 := ClsV.all k rv
  subst e3
  obtain ⟨oc, od, dt, sl⟩ := o
  simp only at h2 h3
  subst h2 h3
  exact PySem.W.kia_tup (PySem.W.handS_kitx_exc C.hg C.hk C.hs C.hd C.ha C.hn C.ht C.hm) I.kIn J h1 e (fun z => nomatch z) fun tk => ⟨.bl b, H, I.kept (t' := tk) fun _ _ z => z, rfl, q⟩
/-! ### what the top tells of an own exception class -/
def ve : List Value := [.type "ValueError", .type "Exception", .type "BaseException", .type "object"]
def voe : List Value := [.type "OverflowError", .type "ArithmeticError", .type "Exception", .type "BaseException", .type "object"]
def vle : List Value := [.type "LookupError", .type "Exception", .type "BaseException", .type "object"]
def vre : List Value := [.type "RuntimeError", .type "Exception", .type "BaseException", .type "object"]
def vie : List Value := [.type "IndexError", .type "LookupError", .type "Exception", .type "BaseException", .type "object"]
structure ExcD (K : PySem.W.Frag) (C : Addr) (bm : List Value) (nw : String) : Prop where
  q : PySem.W.excIn K C bm nw = true
  k : PySem.W.keepIn K (.ref C) = true
  s : PySem.W.subIn K (.ref C) (.type "BaseException") = some true
  t : PySem.W.typeIn K (.ref C) = some (.type "type")
  c : ExcC K C
def kExc (K : PySem.W.Frag) (C : Addr) (bm : List Value) (nw : String) : Bool :=
  PySem.W.excIn K C bm nw && (PySem.W.keepIn K (.ref C) && (decide (PySem.W.subIn K (.ref C) (.type "BaseException") = some true) && (decide (PySem.W.typeIn K (.ref C) = some (.type "type"))
    && (He.eqO (PySem.W.findIn K (.ref C) "__getattribute__") (some (some (.builtin "BaseException.__getattribute__"))) && (He.eqO (PySem.W.findIn K (.ref C) "__getattr__") (some none) && (PySem.W.hasDictIn K C
    && (He.eqO (PySem.W.findIn K (.ref C) "__class__") (some (some (.builtin "object.__class__"))) && (He.eqO (PySem.W.specialIn K (.builtin "object.__class__") "__get__") (some (some (.builtin "getset_descriptor.__get__")))
    && (decide (PySem.W.takesIn K (.builtin "object.__class__") = some true) && decide (PySem.W.mroIn K C (.type "object") = some true))))))))))
theorem kExc_ok {K : PySem.W.Frag} {C : Addr} {bm : List Value} {nw : String} (h : kExc K C bm nw = true) : ExcD K C bm nw := by
  obtain ⟨h1, h⟩ := He.ba h
  obtain ⟨h2, h⟩ := He.ba h
  obtain ⟨h3, h⟩ := He.ba h
  obtain ⟨h4, h⟩ := He.ba h
  obtain ⟨h5, h⟩ := He.ba h
  obtain ⟨h6, h⟩ := He.ba h
  obtain ⟨h7, h⟩ := He.ba h
  obtain ⟨h8, h⟩ := He.ba h
  obtain ⟨h9, h⟩ := He.ba h
  obtain ⟨h10, h11⟩ := He.ba h
  have h3 := of_decide_eq_true h3
  exact ⟨h1, h2, h3, of_decide_eq_true h4, ⟨He.eqO_ok h5, He.eqO_ok h6, h3, h7, He.eqO_ok h8, He.eqO_ok h9, of_decide_eq_true h10, of_decide_eq_true h11⟩⟩
/-- of two classes: is the first under the second -/
structure Und (K : PySem.W.Frag) (C D : Addr) (b : Bool) : Prop where
  m : PySem.W.exmOne K (.ref C) (.ref D) = some b
  i : PySem.W.kitOne K (.ref C) (.ref D) = some b
def kUnd (K : PySem.W.Frag) (C D : Addr) (b : Bool) : Bool := decide (PySem.W.exmOne K (.ref C) (.ref D) = some b) && decide (PySem.W.kitOne K (.ref C) (.ref D) = some b)
theorem kUnd_ok {K : PySem.W.Frag} {C D : Addr} {b : Bool} (h : kUnd K C D b = true) : Und K C D b := ⟨of_decide_eq_true (He.ba h).1, of_decide_eq_true (He.ba h).2⟩
/-! ### a def with a default that is taken -/
structure DefV (P : Program) (w : World) (K : PySem.W.Frag) (mg : Str → Option Value) (base : Heap) (CX : CXT) (k : Nat) (x : Str) (ps : List Str) (dvs : List V) (sp : Sp) : Prop where
  ex : ∃ (f : Addr) (fd : FuncData) (ds : List Value), mg x = some (.ref f) ∧ PySem.W.keepIn K (.ref f) = true ∧ Vals dvs ds ∧ Binds K fd ps ds ∧ FnOk P w K mg base CX k f fd ps sp
/-- a def called with keywords -/
structure DefN (P : Program) (w : World) (K : PySem.W.Frag) (mg : Str → Option Value) (base : Heap) (CX : CXT) (k : Nat) (x : Str) (ps : List Str) (n : Nat) (ks : List Str) (gV : List V → List V → List V) (sp : Sp) : Prop where
  ex : ∃ (f : Addr) (fd : FuncData) (g : List Value → List Value → List Value), mg x = some (.ref f) ∧ PySem.W.keepIn K (.ref f) = true ∧ KBn K fd ps n ks g gV ∧ FnOk P w K mg base CX k f fd ps sp
section
variable {X : Cx} {CX : CXT} {k n : Nat} {ps ks : List Str} {sp : Sp} {E : XK} {x : Str} {p pos : Pos} {e : Expr} {es : List Expr} {t tk : TA} {dvs : List V} {kws : List Keyword} {gV : List V → List V → List V}
theorem pe_callV (D : DefV X.prog X.w X.K X.mg X.base CX k x ps dvs sp) (hr : Room k X.A) (hg : Gl X x) (hx : Passes CX X E) (ha : PA X (e :: es) t) (hdb : (x == ("__debug__" : Str)) = false := by decide)
    (he : starEach (e :: es) X.env = (false, eval e X.env) :: starEach es X.env := by rfl) (hpl : (backTo pos (starEach es X.env)).any (·.1) = false := by rfl) :
    PE X (.Call (.Name x p) (e :: es) [] pos) (tCall sp dvs E t) := by
  obtain ⟨f, fd, ds, h1, h2, h3, h4, h5⟩ := D.ex
  exact pe_call h5 hr hg h1 h2 h4 h3 hx ha hdb he hpl
theorem pe_callNN (D : DefN X.prog X.w X.K X.mg X.base CX k x ps n ks gV sp) (hr : Room k X.A) (hg : Gl X x) (hx : Passes CX X E) (ha : PA X (e :: es) t) (hkw : PK X kws tk) (hall : (backToKw pos (keywordEach kws X.env)).all (·.1.isSome) = true := by rfl) (hks : (backToKw pos (keywordEach kws X.env)).filterMap (·.1) = ks := by rfl)
    (hdb : (x == ("__debug__" : Str)) = false := by decide) (he : starEach (e :: es) X.env = (false, eval e X.env) :: starEach es X.env := by rfl)
    (hpl : ((backTo pos (starEach (e :: es) X.env)).any (·.1) || (backToKw pos (keywordEach kws X.env)).any (·.1.isNone)) = false := by rfl) :
    PE X (.Call (.Name x p) (e :: es) kws pos) (tCallN n ks.length sp gV E t tk) := by
  obtain ⟨f, fd, g, h1, h2, h3, h4⟩ := D.ex
  exact pe_callN h4 hr hg h1 h2 h3 hx ha hkw hall hks hdb he hpl
end
section
variable {X : Cx} {CX : CXT} {k n : Nat} {ps ks : List Str} {sp : Sp} {E : L2.St → XK} {x : Str} {p pos : Pos} {e : Expr} {es : List Expr} {t tk : TA}
theorem pe_callDX (D : Def X.prog X.w X.K X.mg X.base CX k x ps sp) (hr : Room k X.A) (hg : Gl X x) (hx : ∀ σ, PassesAt CX X σ (E σ)) (ha : PA X (e :: es) t) (hdb : (x == ("__debug__" : Str)) = false := by decide)
    (he : starEach (e :: es) X.env = (false, eval e X.env) :: starEach es X.env := by rfl) (hpl : (backTo pos (starEach es X.env)).any (·.1) = false := by rfl) :
    PE X (.Call (.Name x p) (e :: es) [] pos) (tCallS sp E t) := by
  obtain ⟨f, fd, h1, h2, h3, h4⟩ := D.ex
  exact pe_callS h4 hr hg h1 h2 h3 hx ha hdb he hpl
theorem pe_callVX (D : DefV X.prog X.w X.K X.mg X.base CX k x ps [] sp) (hr : Room k X.A) (hg : Gl X x) (hx : ∀ σ, PassesAt CX X σ (E σ)) (ha : PA X (e :: es) t) (hdb : (x == ("__debug__" : Str)) = false := by decide)
    (he : starEach (e :: es) X.env = (false, eval e X.env) :: starEach es X.env := by rfl) (hpl : (backTo pos (starEach es X.env)).any (·.1) = false := by rfl) :
    PE X (.Call (.Name x p) (e :: es) [] pos) (tCallS sp E t) := by
  obtain ⟨f, fd, ds, h1, h2, h3, h4, h5⟩ := D.ex
  cases h3
  exact pe_callS h5 hr hg h1 h2 h4 hx ha hdb he hpl
end
/-- an except suite, once the class is known -/
theorem pss_cls {Y : Cx} {body : List Stmt} {oe : Obj} {cls : Value} {d : Option Addr} {D : Addr} {t : TS} (hz : Zc cls d oe) (h : Zc (.ref D) none oe → PSs Y body t) : PSs Y body (fun D' σ H => cls = .ref D ∧ d = none ∧ t D' σ H) :=
  ⟨fun pins s σ H D' I hh => by
    obtain ⟨rfl, rfl, hh⟩ := hh
    exact (h hz).run pins s σ H D' I hh⟩
section
variable {P : Program} {w : World} {K : PySem.W.Frag} {mg : Str → Option Value} {base : Heap} {x qual : Str} {params : Arguments} {body : List Stmt} {scope : Scope} {kws : List (Str × V)}
/-- a def with keyword-only defaults, all of them taken -/
theorem mkDefV {CX : CXT} {N ps : List Str} {k n : Nat} {sp : Sp} {f : Addr} (F : ∃ fd, FunD K x qual params body scope [] kws f fd) (g : mg x = some (.ref f)) (S : FnScope N ps scope) (hk : kws ≠ []) (hn : n + kws.length = ps.length)
    (hb : ∀ (D : Addr) (doc pm : Value) (an : Option Addr) (cdv ct : Value) (us ks : List Value), us.length = n → ks.length = kws.length →
      KwChain D ((kws.map (·.1)).zip ks) (bindArgs (PySem.W.fnOf x qual params body scope .none (.ref D) doc pm an cdv ct) ⟨us, []⟩) (ps.zip (us ++ ks)))
    (len : ∀ vs H Q E, sp vs H Q E → vs.length = ps.length)
    (hbody : ∀ (cdv : Value) (A : Around) (outer : List Env) (s : Shared) (H : Hp) (vs : List V) (Q : VK) (E : XK), Room k (A.deeper (envOfC qual scope s.heap.objs.size f cdv)) → sp vs H Q E →
      ∃ t, PSs (cxOf CX P w K mg base N qual scope f cdv A outer s H E) body t ∧ t { nx := fun _ H' => Q .non H', rt := Q } (start N vs) H) : DefV P w K mg base CX (k + 1) x ps (kws.map (·.2)) sp := by
  obtain ⟨fd, F⟩ := F
  obtain ⟨ds, h1, h2⟩ := F.binds0 n hk hn hb
  exact ⟨f, fd, ds, g, F.kp, h1, h2, F.ok S len hbody⟩
end
/-! ### == of data without dicts -/
def rEqP (K : PySem.W.Frag) : R2 := fun x y H Q => ∃ d e, Dp K H x d ∧ Dp K H y e ∧ d.plain = true ∧ e.plain = true ∧ d.depth ≤ 64 ∧ Q (.bl (PyData.eqv d e)) H
def rNeP (K : PySem.W.Frag) : R2 := fun x y H Q => ∃ d e, Dp K H x d ∧ Dp K H y e ∧ d.plain = true ∧ e.plain = true ∧ d.depth ≤ 64 ∧ Q (.bl (!PyData.eqv d e)) H
section
variable {X : Cx}
theorem op_eqP (hu : X.A.units + 64 < cLine) : OpR X (compareOp .Eq) (rEqP X.K) := by
  intro pins s σ H x y v u Q I rx ry h
  obtain ⟨d, e, hd, he, sd, se, hk, q⟩ := h
  obtain ⟨as, r1⟩ := Dp.reads I d x v hd rx
  obtain ⟨bs, r2⟩ := Dp.reads I e y u he ry
  exact PySem.SeqAt.eq_plain r1 r2 sd se (by have : min d.depth e.depth ≤ d.depth := Nat.min_le_left _ _; omega) ⟨.bl _, H, I, rfl, q⟩
theorem op_neP (hu : X.A.units + 64 < cLine) : OpR X (compareOp .NotEq) (rNeP X.K) := by
  intro pins s σ H x y v u Q I rx ry h
  obtain ⟨d, e, hd, he, sd, se, hk, q⟩ := h
  obtain ⟨as, r1⟩ := Dp.reads I d x v hd rx
  obtain ⟨bs, r2⟩ := Dp.reads I e y u he ry
  exact PySem.SeqAt.ne_plain r1 r2 sd se (by have : min d.depth e.depth ≤ d.depth := Nat.min_le_left _ _; omega) ⟨.bl _, H, I, rfl, q⟩
end
def plainTys : List String := ["NoneType", "bool", "int", "str", "tuple", "list", "dict"]
/-- what is known of a class with an own == -/
structure OwnE (K : PySem.W.Frag) (C f : Addr) : Prop where
  hm : PySem.W.mroIn K C (.type "object") = some true
  ne : PySem.W.findIn K (.ref C) "__ne__" = some (some (.builtin "object.__ne__"))
  eq : PySem.W.findIn K (.ref C) "__eq__" = some (some (.ref f))
  fn : PySem.W.isFn K (.ref f) = true
  ha : PySem.W.findIn K (.ref C) "__class__" = some (some (.builtin "object.__class__"))
  hn : PySem.W.specialIn K (.builtin "object.__class__") "__get__" = some (some (.builtin "getset_descriptor.__get__"))
  htk : PySem.W.takesIn K (.builtin "object.__class__") = some true
  self : PySem.W.kitOne K (.ref C) (.ref C) = some true
  oth : ∀ T ∈ plainTys, PySem.W.kitOne K (.type T) (.ref C) = some false ∧ PySem.W.notFirst K C (.type T) = true
def kOwnE (K : PySem.W.Frag) (C f : Addr) : Bool := decide (PySem.W.mroIn K C (.type "object") = some true) && (He.eqO (PySem.W.findIn K (.ref C) "__ne__") (some (some (.builtin "object.__ne__"))) && (He.eqO (PySem.W.findIn K (.ref C) "__eq__") (some (some (.ref f))) && (PySem.W.isFn K (.ref f) && (He.eqO (PySem.W.findIn K (.ref C) "__class__") (some (some (.builtin "object.__class__"))) && (He.eqO (PySem.W.specialIn K (.builtin "object.__class__") "__get__") (some (some (.builtin "getset_descriptor.__get__"))) && (decide (PySem.W.takesIn K (.builtin "object.__class__") = some true) && (decide (PySem.W.kitOne K (.ref C) (.ref C) = some true) && plainTys.all fun T => decide (PySem.W.kitOne K (.type T) (.ref C) = some false) && PySem.W.notFirst K C (.type T))))))))
theorem kOwnE_ok {K : PySem.W.Frag} {C f : Addr} (h : kOwnE K C f = true) : OwnE K C f := by
  obtain ⟨h1, h⟩ := He.ba h
  obtain ⟨h2, h⟩ := He.ba h
  obtain ⟨h3, h⟩ := He.ba h
  obtain ⟨h4, h⟩ := He.ba h
  obtain ⟨h5, h⟩ := He.ba h
  obtain ⟨h6, h⟩ := He.ba h
  obtain ⟨h7, h⟩ := He.ba h
  obtain ⟨h8, h9⟩ := He.ba h
  exact ⟨of_decide_eq_true h1, He.eqO_ok h2, He.eqO_ok h3, h4, He.eqO_ok h5, He.eqO_ok h6, of_decide_eq_true h7, of_decide_eq_true h8, fun T hT => ⟨of_decide_eq_true (He.ba (List.all_eq_true.mp h9 T hT)).1, (He.ba (List.all_eq_true.mp h9 T hT)).2⟩⟩
end Nt

namespace Nt
open PySem PySem.Spec PyProof.Rows L2 Evl
section
open PySem.W (excTail excTail_contains excTail_pass excOver findIn)
/-- what the top tells of an own exception class with an __init__ (at fI), over B -/
structure OxC (K : PySem.W.Frag) (C : Addr) (bmB : List Value) (newId : String) : Prop where
  cls : ∃ nm q N bs bm sn sub ab col dd k0 k1 k2 k3 k5, K.lookup C = some (excClassObj nm q C N bs bm true sn sub ab col dd k0 k1 k2 k3 k5 newId) ∧ excTail bmB bm = true
  sa : findIn K (.ref C) "__setattr__" = some (some (.builtin "object.__setattr__"))
  exC : PySem.W.subIn K (.ref C) (.type "BaseException") = some true
  tyC : PySem.W.typeIn K (.ref C) = some (.type "type")
  kC : PySem.W.keepIn K (.ref C) = true
/-! ### the facts, decided -/
def kOx (K : PySem.W.Frag) (C fI : Addr) (bmB : List Value) (newId : String) (f : Str) : Bool :=
  (match K.lookup C with
  | some ⟨.type "type", _, .cls cd, sl⟩ => (match cd.mro, sl.toList with
    | .ref C' :: bm, [_, _, _, _, some (.builtin n), _] => C' == C && n == newId && !cd.hasDel && cd.hasDict && excTail bmB bm
    | _, _ => false)
  | _ => false)
  && (He.eqO (findIn K (.ref C) "__setattr__") (some (some (.builtin "object.__setattr__"))) && (decide (PySem.W.subIn K (.ref C) (.type "BaseException") = some true) && (decide (PySem.W.typeIn K (.ref C) = some (.type "type")) && (PySem.W.keepIn K (.ref C)
  && (He.eqO (findIn K (.ref C) "__init__") (some (some (.ref fI))) && (decide (PySem.W.typeIn K (.ref fI) = some (.type "function")) && (He.eqO (findIn K (.ref C) f) (some none) && (xfB K C
  && (He.eqO (findIn K (.ref C) "__class__") (some (some (.builtin "object.__class__"))) && (He.eqO (PySem.W.specialIn K (.builtin "object.__class__") "__get__") (some (some (.builtin "getset_descriptor.__get__"))) && (decide (PySem.W.takesIn K (.builtin "object.__class__") = some true) && decide (PySem.W.mroIn K C (.type "object") = some true))))))))))))
structure OxD (K : PySem.W.Frag) (C fI : Addr) (bmB : List Value) (newId : String) (f : Str) : Prop where
  o : OxC K C bmB newId
  i : findIn K (.ref C) "__init__" = some (some (.ref fI))
  t : PySem.W.typeIn K (.ref fI) = some (.type "function")
  n : findIn K (.ref C) f = some none
  x : XfC K C
  c : ExcC K C
theorem kOx_ok {K : PySem.W.Frag} {C fI : Addr} {bmB : List Value} {newId : String} {f : Str} (h : kOx K C fI bmB newId f = true) : OxD K C fI bmB newId f := by
  obtain ⟨h1, h⟩ := He.ba h
  obtain ⟨h2, h⟩ := He.ba h
  obtain ⟨h3, h⟩ := He.ba h
  obtain ⟨h4, h⟩ := He.ba h
  obtain ⟨h5, h⟩ := He.ba h
  obtain ⟨h6, h⟩ := He.ba h
  obtain ⟨h7, h⟩ := He.ba h
  obtain ⟨h8, h⟩ := He.ba h
  obtain ⟨h9, h⟩ := He.ba h
  obtain ⟨h10, h⟩ := He.ba h
  obtain ⟨h11, h⟩ := He.ba h
  obtain ⟨h12, h13⟩ := He.ba h
  have hx := xfB_ok h9
  refine ⟨⟨?_, He.eqO_ok h2, of_decide_eq_true h3, of_decide_eq_true h4, h5⟩, He.eqO_ok h6, of_decide_eq_true h7, He.eqO_ok h8, hx, ⟨hx.ga, hx.gg, of_decide_eq_true h3, hx.hdC, He.eqO_ok h10, He.eqO_ok h11, of_decide_eq_true h12, of_decide_eq_true h13⟩⟩
  split at h1
  · rename_i dd cd sl ho
    split at h1
    · rename_i C' bm k0 k1 k2 k3 n k5 hm hs
      simp only [Bool.and_eq_true, beq_iff_eq, Bool.not_eq_true'] at h1
      obtain ⟨⟨⟨⟨rfl, rfl⟩, hdel⟩, hdic⟩, ht⟩ := h1
      obtain ⟨nm, bs, mro, ns, qn, hd, sn, sub, ab, col, dl⟩ := cd
      dsimp only at hm hdel hdic
      subst hm hdel hdic
      obtain rfl : sl = #[k0, k1, k2, k3, some (.builtin n), k5] := by
        obtain ⟨l⟩ := sl
        simp only at hs
        rw [hs]
      exact ⟨nm, qn, ns, bs, bm, sn, sub, ab, col, dd, k0, k1, k2, k3, k5, ho, ht⟩
    · cases h1
  · cases h1
/-- how an own class hands on Base.__init__ -/
structure XiD (K : PySem.W.Frag) (D : Addr) (initId : String) : Prop where
  r : ClX.CRead K D (.type "type")
  v : PySem.W.findCls K (.ref D) (.type "type") "__init__" = some (.val (.builtin initId))
def oxVal (r : Option PySem.W.CFound) (n : String) : Bool := match r with
  | some (.val (.builtin m)) => m == n
  | _ => false
theorem oxVal_ok {r : Option PySem.W.CFound} {n : String} (h : oxVal r n = true) : r = some (.val (.builtin n)) := by
  unfold oxVal at h
  split at h
  · rw [eq_of_beq h]
  · cases h
def kXi (K : PySem.W.Frag) (D : Addr) (initId : String) : Bool := PySem.W.readsIn K D (.type "type") && (He.eqO (PySem.W.specialIn K (.ref D) "__getattribute__") (some (some (.builtin "type.__getattribute__"))) && oxVal (PySem.W.findCls K (.ref D) (.type "type") "__init__") initId)
theorem kXi_ok {K : PySem.W.Frag} {D : Addr} {initId : String} (h : kXi K D initId = true) : XiD K D initId := by
  obtain ⟨h1, h⟩ := He.ba h
  obtain ⟨h2, h3⟩ := He.ba h
  exact ⟨⟨h1, He.eqO_ok h2⟩, oxVal_ok h3⟩
/-- .. a built-in one -/
def kXt (K : PySem.W.Frag) (B initId : String) : Bool := oxVal (PySem.W.findCls K (.type B) (.type "type") "__init__") initId
end
end Nt

namespace Nt
open PySem PySem.W PySem.Calls PySem.Spec PyProof.Rows L2
/-! ### the top's run, looked at in parts -/
@[irreducible] def RunP (r : OpenRow) (M : Nat) {α : Type} (ob : SharedT → α) (v : α) (w : World) : Prop := ∀ os : OsState, (HandSHeadRun.endF (HandSHeadRun.stepQ (HandSHeadRun.denQ HandSHeadRun.tabQ) r.prog w) M r.prog w os).map ob = some v
theorem RunP.mk {r : OpenRow} {M : Nat} {α : Type} {ob : SharedT → α} {v : α} {w : World} (h : ∀ os : OsState, (HandSHeadRun.endF (HandSHeadRun.stepQ (HandSHeadRun.denQ HandSHeadRun.tabQ) r.prog w) M r.prog w os).map ob = some v) : RunP r M ob v w := by
  unfold RunP
  exact h
noncomputable def lookP (r : OpenRow) (q : Program) (loose : List PySem.Str) (w : World) (s : SharedT) := (HandSHeadRun.looksF r.prog (boot_heap w.params) s.abs, HandSHeadRun.seenQ q loose (importedModules r.prog.main.body) (fun s => xlAt q [] s && recOk r.toRowW.records s) s.abs)
/-- as the library's hookX without tables of attributes, and the interpreter's own statics are seen too -/
def asY (g : Addr → Option Obj) (n : Nat) : List Addr := He.asD g n ++ [cStatics]
def obsY (n : Nat) (fa : List He.Fa) (fn : List He.DefD) (ts : List He.Tab) (ex : Frag → Bool) (g : Addr → Option Obj) : He.AlX := (He.obsT fa fn ts (He.frT g (asY g n)), ex (He.frT g (asY g n)))
def hookY (n : Nat) (fa : List He.Fa) (fn : List He.DefD) (ts : List He.Tab) (ex : Frag → Bool) : PySem.W.Hook where
  α := He.AlX
  obs := fun s => obsY n fa fn ts ex s.heap.get?
  val := fun w => He.valX fn ts w
  says := fun w h => ∃ K : Frag, K.In h ∧ He.SaysX fa fn ts [] ex w h K
  of := fun _ _ e => ⟨_, He.frT_in, ⟨congrArg (fun z : He.AlX => z.1) e, congrArg (fun z : He.AlX => z.2) e, (fun _ hp => absurd hp List.not_mem_nil), (fun _ hp => absurd hp List.not_mem_nil), (fun _ hp => absurd hp List.not_mem_nil)⟩⟩
  keeps := fun _ _ _ ⟨K, hK, c⟩ k => ⟨K, Frag.In.keeps hK k, ⟨c.t, c.more, c.hd, c.out, (fun _ hp => absurd hp List.not_mem_nil)⟩⟩
theorem obsY_eq {n : Nat} {fa : List He.Fa} {fn : List He.DefD} {ts : List He.Tab} {ex : Frag → Bool} {g : Addr → Option Obj} {s : Shared} (h : ∀ a, g a = s.heap.get? a) : obsY n fa fn ts ex g = (hookY n fa fn ts ex).obs s := by
  have e : g = s.heap.get? := funext h
  subst e
  rfl
def obP (n : Nat) (fa : List He.Fa) (fn : List He.DefD) (ts : List He.Tab) (exs : Frag → List Bool) (s : SharedT) : He.AlX := obsY n fa fn ts (fun K => (exs K).all id) (HandSHeadRun.getT s)
theorem RunP.both {r : OpenRow} {M : Nat} {α β : Type} {f : SharedT → α} {g : SharedT → β} {a : α} {b : β} {w : World} (h1 : RunP r M f a w) (h2 : RunP r M g b w) (os : OsState) : ∃ s, HandSHeadRun.endF (HandSHeadRun.stepQ (HandSHeadRun.denQ HandSHeadRun.tabQ) r.prog w) M r.prog w os = some s ∧ f s = a ∧ g s = b := by
  unfold RunP at h1 h2
  have e1 := h1 os
  have e2 := h2 os
  cases e : HandSHeadRun.endF (HandSHeadRun.stepQ (HandSHeadRun.denQ HandSHeadRun.tabQ) r.prog w) M r.prog w os with
  | none => rw [e] at e1; cases e1
  | some s =>
    rw [e] at e1 e2
    exact ⟨s, rfl, Option.some.inj e1, Option.some.inj e2⟩
theorem RunP.app {r : OpenRow} {M n : Nat} {fa fa' : List He.Fa} {fn fn' : List He.DefD} {ts ts' : List He.Tab} {ex ex' : Frag → List Bool} {w : World} (h1 : RunP r M (obP n fa fn ts ex) (He.valX fn ts w) w) (h2 : RunP r M (obP n fa' fn' ts' ex') (He.valX fn' ts' w) w) :
    RunP r M (obP n (fa ++ fa') (fn ++ fn') (ts ++ ts') (fun K => ex K ++ ex' K)) (He.valX (fn ++ fn') (ts ++ ts') w) w := by
  refine RunP.mk fun os => ?_
  obtain ⟨s, e, a, b⟩ := h1.both h2 os
  rw [e]
  show some (obP n (fa ++ fa') (fn ++ fn') (ts ++ ts') (fun K => ex K ++ ex' K) s) = _
  congr 1
  unfold obP obsY at a b ⊢
  generalize He.frT (HandSHeadRun.getT s) (asY (HandSHeadRun.getT s) n) = K at a b ⊢
  unfold He.valX at a b ⊢
  obtain ⟨a1, a2⟩ := Prod.mk.inj a
  obtain ⟨b1, b2⟩ := Prod.mk.inj b
  unfold He.obsT He.valT at a1 b1 ⊢
  obtain ⟨a4, a5⟩ := Prod.mk.inj a1
  obtain ⟨b4, b5⟩ := Prod.mk.inj b1
  unfold He.obsD He.valD at a4 b4 ⊢
  obtain ⟨a6, a7⟩ := Prod.mk.inj a4
  obtain ⟨b6, b7⟩ := Prod.mk.inj b4
  obtain ⟨a8, a9⟩ := He.ba a6
  obtain ⟨b8, b9⟩ := He.ba b6
  simp only [List.all_append, List.map_append, a8, b8, a9, b9, a7, b7, a5, b5, a2, b2, Bool.and_true]
theorem RunP.eq {r : OpenRow} {q : Program} {M n : Nat} {loose : List PySem.Str} {fa : List He.Fa} {fn : List He.DefD} {ts : List He.Tab} {ex : Frag → List Bool} {w : World}
    (h0 : RunP r M (lookP r q loose w) (true, openGood q loose) w)
    (h1 : RunP r M (obP n fa fn ts ex) (He.valX fn ts w) w) : HandSHeadRun.RunEq r q (hookY n fa fn ts (fun K => (ex K).all id)) (obP n fa fn ts ex) M loose w := by
  intro os
  obtain ⟨s, e, a, b⟩ := h0.both h1 os
  rw [e]
  show some ((HandSHeadRun.looksF r.prog (boot_heap w.params) s.abs, HandSHeadRun.seenQ q loose (importedModules r.prog.main.body) (fun s => xlAt q [] s && recOk r.toRowW.records s) s.abs, obP n fa fn ts ex s)) = _
  obtain ⟨a1, a2⟩ := Prod.mk.inj a
  rw [a1, a2, b]
  rfl
end Nt

namespace Nt
open PySem PySem.Spec PyProof.Rows L2
def topS (i : Nat) : Stmt := PySem.Challenge.pw_neithertells_k47_bounds.main.body.getD i (.Pass ⟨0, 0, 0, 0⟩)
abbrev s_NoMachine___init__ : Stmt := inClass (topS 6) 0
abbrev N_NoMachine___init__ : List Str := (["self", "number"] : List Str)
theorem sc_NoMachine___init__ : FnScope N_NoMachine___init__ ["self", "number"] (defScope s_NoMachine___init__) := ⟨rfl, rfl, rfl, by decide +kernel, rfl, by decide +kernel, by decide +kernel⟩
abbrev s_is_integer : Stmt := topS 18
abbrev N_is_integer : List Str := (["thing"] : List Str)
theorem sc_is_integer : FnScope N_is_integer ["thing"] (defScope s_is_integer) := ⟨rfl, rfl, rfl, by decide +kernel, rfl, by decide +kernel, by decide +kernel⟩
abbrev s_is_one_of : Stmt := topS 19
abbrev N_is_one_of : List Str := (["thing", "names"] : List Str)
theorem sc_is_one_of : FnScope N_is_one_of ["thing", "names"] (defScope s_is_one_of) := ⟨rfl, rfl, rfl, by decide +kernel, rfl, by decide +kernel, by decide +kernel⟩
abbrev s_is_value : Stmt := topS 20
abbrev N_is_value : List Str := (["thing"] : List Str)
theorem sc_is_value : FnScope N_is_value ["thing"] (defScope s_is_value) := ⟨rfl, rfl, rfl, by decide +kernel, rfl, by decide +kernel, by decide +kernel⟩
abbrev s_is_term : Stmt := topS 21
abbrev N_is_term : List Str := (["thing"] : List Str)
theorem sc_is_term : FnScope N_is_term ["thing"] (defScope s_is_term) := ⟨rfl, rfl, rfl, by decide +kernel, rfl, by decide +kernel, by decide +kernel⟩
abbrev s_is_condition : Stmt := topS 22
abbrev N_is_condition : List Str := (["thing", "variable", "sign", "term"] : List Str)
theorem sc_is_condition : FnScope N_is_condition ["thing"] (defScope s_is_condition) := ⟨rfl, rfl, rfl, by decide +kernel, rfl, by decide +kernel, by decide +kernel⟩
abbrev s_is_set : Stmt := topS 23
abbrev N_is_set : List Str := (["parts"] : List Str)
theorem sc_is_set : FnScope N_is_set ["parts"] (defScope s_is_set) := ⟨rfl, rfl, rfl, by decide +kernel, rfl, by decide +kernel, by decide +kernel⟩
abbrev s_is_add : Stmt := topS 24
abbrev N_is_add : List Str := (["parts"] : List Str)
theorem sc_is_add : FnScope N_is_add ["parts"] (defScope s_is_add) := ⟨rfl, rfl, rfl, by decide +kernel, rfl, by decide +kernel, by decide +kernel⟩
abbrev s_is_wait : Stmt := topS 25
abbrev N_is_wait : List Str := (["parts"] : List Str)
theorem sc_is_wait : FnScope N_is_wait ["parts"] (defScope s_is_wait) := ⟨rfl, rfl, rfl, by decide +kernel, rfl, by decide +kernel, by decide +kernel⟩
abbrev s_is_ask : Stmt := topS 26
abbrev N_is_ask : List Str := (["parts"] : List Str)
theorem sc_is_ask : FnScope N_is_ask ["parts"] (defScope s_is_ask) := ⟨rfl, rfl, rfl, by decide +kernel, rfl, by decide +kernel, by decide +kernel⟩
abbrev s_is_answer : Stmt := topS 27
abbrev N_is_answer : List Str := (["parts"] : List Str)
theorem sc_is_answer : FnScope N_is_answer ["parts"] (defScope s_is_answer) := ⟨rfl, rfl, rfl, by decide +kernel, rfl, by decide +kernel, by decide +kernel⟩
abbrev s_is_one_term : Stmt := topS 28
abbrev N_is_one_term : List Str := (["parts"] : List Str)
theorem sc_is_one_term : FnScope N_is_one_term ["parts"] (defScope s_is_one_term) := ⟨rfl, rfl, rfl, by decide +kernel, rfl, by decide +kernel, by decide +kernel⟩
abbrev s_count_block : Stmt := topS 30
abbrev N_count_block : List Str := (["kind", "word", "parts", "depth", "bodies", "counts", "body"] : List Str)
theorem sc_count_block : FnScope N_count_block ["kind", "word", "parts", "depth"] (defScope s_count_block) := ⟨rfl, rfl, rfl, by decide +kernel, rfl, by decide +kernel, by decide +kernel⟩
abbrev s_count_statement : Stmt := topS 31
abbrev N_count_statement : List Str := (["kind", "thing", "depth", "word", "parts", "check"] : List Str)
theorem sc_count_statement : FnScope N_count_statement ["kind", "thing", "depth"] (defScope s_count_statement) := ⟨rfl, rfl, rfl, by decide +kernel, rfl, by decide +kernel, by decide +kernel⟩
abbrev s_count_body : Stmt := topS 32
abbrev N_count_body : List Str := (["kind", "thing", "depth", "counts", "statement"] : List Str)
theorem sc_count_body : FnScope N_count_body ["kind", "thing", "depth"] (defScope s_count_body) := ⟨rfl, rfl, rfl, by decide +kernel, rfl, by decide +kernel, by decide +kernel⟩
abbrev s_is_program : Stmt := topS 33
abbrev N_is_program : List Str := (["thing", "count"] : List Str)
theorem sc_is_program : FnScope N_is_program ["thing"] (defScope s_is_program) := ⟨rfl, rfl, rfl, by decide +kernel, rfl, by decide +kernel, by decide +kernel⟩
abbrev s_State___init__ : Stmt := inClass (topS 35) 0
abbrev N_State___init__ : List Str := (["self"] : List Str)
theorem sc_State___init__ : FnScope N_State___init__ ["self"] (defScope s_State___init__) := ⟨rfl, rfl, rfl, by decide +kernel, rfl, by decide +kernel, by decide +kernel⟩
abbrev s_State_twin : Stmt := inClass (topS 35) 1
abbrev N_State_twin : List Str := (["self", "other", "side", "members", "machine"] : List Str)
theorem sc_State_twin : FnScope N_State_twin ["self"] (defScope s_State_twin) := ⟨rfl, rfl, rfl, by decide +kernel, rfl, by decide +kernel, by decide +kernel⟩
abbrev s_State_members : Stmt := inClass (topS 35) 2
abbrev N_State_members : List Str := (["self", "side"] : List Str)
theorem sc_State_members : FnScope N_State_members ["self", "side"] (defScope s_State_members) := ⟨rfl, rfl, rfl, by decide +kernel, rfl, by decide +kernel, by decide +kernel⟩
abbrev s_State_machine : Stmt := inClass (topS 35) 3
abbrev N_State_machine : List Str := (["self", "number", "found", "machine"] : List Str)
theorem sc_State_machine : FnScope N_State_machine ["self", "number"] (defScope s_State_machine) := ⟨rfl, rfl, rfl, by decide +kernel, rfl, by decide +kernel, by decide +kernel⟩
abbrev s_State_mention : Stmt := inClass (topS 35) 4
abbrev N_State_mention : List Str := (["self", "integer"] : List Str)
theorem sc_State_mention : FnScope N_State_mention ["self", "integer"] (defScope s_State_mention) := ⟨rfl, rfl, rfl, by decide +kernel, rfl, by decide +kernel, by decide +kernel⟩
abbrev s_State_new_position : Stmt := inClass (topS 35) 5
abbrev N_State_new_position : List Str := (["self"] : List Str)
theorem sc_State_new_position : FnScope N_State_new_position ["self"] (defScope s_State_new_position) := ⟨rfl, rfl, rfl, by decide +kernel, rfl, by decide +kernel, by decide +kernel⟩
abbrev s_State_put : Stmt := inClass (topS 35) 6
abbrev N_State_put : List Str := (["self", "side", "integer"] : List Str)
theorem sc_State_put : FnScope N_State_put ["self", "side", "integer"] (defScope s_State_put) := ⟨rfl, rfl, rfl, by decide +kernel, rfl, by decide +kernel, by decide +kernel⟩
abbrev s_State_barred : Stmt := inClass (topS 35) 7
abbrev N_State_barred : List Str := (["self", "machine"] : List Str)
theorem sc_State_barred : FnScope N_State_barred ["self", "machine"] (defScope s_State_barred) := ⟨rfl, rfl, rfl, by decide +kernel, rfl, by decide +kernel, by decide +kernel⟩
abbrev s_State_guards : Stmt := inClass (topS 35) 8
abbrev N_State_guards : List Str := (["self", "side", "machine", "place", "integer"] : List Str)
theorem sc_State_guards : FnScope N_State_guards ["self", "side"] (defScope s_State_guards) := ⟨rfl, rfl, rfl, by decide +kernel, rfl, by decide +kernel, by decide +kernel⟩
abbrev s_State_arrive : Stmt := inClass (topS 35) 9
abbrev N_State_arrive : List Str := (["self", "program", "side"] : List Str)
theorem sc_State_arrive : FnScope N_State_arrive ["self", "program", "side"] (defScope s_State_arrive) := ⟨rfl, rfl, rfl, by decide +kernel, rfl, by decide +kernel, by decide +kernel⟩
abbrev s_State_withdraw : Stmt := inClass (topS 35) 10
abbrev N_State_withdraw : List Str := (["self", "number"] : List Str)
theorem sc_State_withdraw : FnScope N_State_withdraw ["self", "number"] (defScope s_State_withdraw) := ⟨rfl, rfl, rfl, by decide +kernel, rfl, by decide +kernel, by decide +kernel⟩
abbrev s_State_next_act : Stmt := inClass (topS 35) 11
abbrev N_State_next_act : List Str := (["self", "found", "machine", "possible"] : List Str)
theorem sc_State_next_act : FnScope N_State_next_act ["self"] (defScope s_State_next_act) := ⟨rfl, rfl, rfl, by decide +kernel, rfl, by decide +kernel, by decide +kernel⟩
abbrev s_State_perform : Stmt := inClass (topS 35) 12
abbrev N_State_perform : List Str := (["self", "act", "clock", "number", "integer", "machine"] : List Str)
theorem sc_State_perform : FnScope N_State_perform ["self", "act"] (defScope s_State_perform) := ⟨rfl, rfl, rfl, by decide +kernel, rfl, by decide +kernel, by decide +kernel⟩
abbrev s_State_summary : Stmt := inClass (topS 35) 13
abbrev N_State_summary : List Str := (["self", "machines", "one", "parts", "sets"] : List Str)
theorem sc_State_summary : FnScope N_State_summary ["self"] (defScope s_State_summary) := ⟨rfl, rfl, rfl, by decide +kernel, rfl, by decide +kernel, by decide +kernel⟩
abbrev s_check_side : Stmt := topS 40
abbrev N_check_side : List Str := (["thing"] : List Str)
theorem sc_check_side : FnScope N_check_side ["thing"] (defScope s_check_side) := ⟨rfl, rfl, rfl, by decide +kernel, rfl, by decide +kernel, by decide +kernel⟩
abbrev s_House___init__ : Stmt := inClass (topS 41) 0
abbrev N_House___init__ : List Str := (["self"] : List Str)
theorem sc_House___init__ : FnScope N_House___init__ ["self"] (defScope s_House___init__) := ⟨rfl, rfl, rfl, by decide +kernel, rfl, by decide +kernel, by decide +kernel⟩
abbrev s_House___eq__ : Stmt := inClass (topS 41) 1
abbrev N_House___eq__ : List Str := (["self", "other"] : List Str)
theorem sc_House___eq__ : FnScope N_House___eq__ ["self", "other"] (defScope s_House___eq__) := ⟨rfl, rfl, rfl, by decide +kernel, rfl, by decide +kernel, by decide +kernel⟩
abbrev s_House___len__ : Stmt := inClass (topS 41) 2
abbrev N_House___len__ : List Str := (["self"] : List Str)
theorem sc_House___len__ : FnScope N_House___len__ ["self"] (defScope s_House___len__) := ⟨rfl, rfl, rfl, by decide +kernel, rfl, by decide +kernel, by decide +kernel⟩
abbrev s_House___repr__ : Stmt := inClass (topS 41) 3
abbrev N_House___repr__ : List Str := (["self"] : List Str)
theorem sc_House___repr__ : FnScope N_House___repr__ ["self"] (defScope s_House___repr__) := ⟨rfl, rfl, rfl, by decide +kernel, rfl, by decide +kernel, by decide +kernel⟩
abbrev s_House_check_free : Stmt := inClass (topS 41) 4
abbrev N_House_check_free : List Str := (["self"] : List Str)
theorem sc_House_check_free : FnScope N_House_check_free ["self"] (defScope s_House_check_free) := ⟨rfl, rfl, rfl, by decide +kernel, rfl, by decide +kernel, by decide +kernel⟩
abbrev s_House_present : Stmt := inClass (topS 41) 5
abbrev N_House_present : List Str := (["self", "number", "machine"] : List Str)
theorem sc_House_present : FnScope N_House_present ["self", "number"] (defScope s_House_present) := ⟨rfl, rfl, rfl, by decide +kernel, rfl, by decide +kernel, by decide +kernel⟩
abbrev s_House_keep : Stmt := inClass (topS 41) 6
abbrev N_House_keep : List Str := (["self", "deed", "before"] : List Str)
theorem sc_House_keep : FnScope N_House_keep ["self", "deed", "before"] (defScope s_House_keep) := ⟨rfl, rfl, rfl, by decide +kernel, rfl, by decide +kernel, by decide +kernel⟩
abbrev s_House_arrive : Stmt := inClass (topS 41) 7
abbrev N_House_arrive : List Str := (["self", "program", "side"] : List Str)
theorem sc_House_arrive : FnScope N_House_arrive ["self", "program", "side"] (defScope s_House_arrive) := ⟨rfl, rfl, rfl, by decide +kernel, rfl, by decide +kernel, by decide +kernel⟩
abbrev s_House_withdraw : Stmt := inClass (topS 41) 8
abbrev N_House_withdraw : List Str := (["self", "number"] : List Str)
theorem sc_House_withdraw : FnScope N_House_withdraw ["self", "number"] (defScope s_House_withdraw) := ⟨rfl, rfl, rfl, by decide +kernel, rfl, by decide +kernel, by decide +kernel⟩
abbrev s_House_advance : Stmt := inClass (topS 41) 9
abbrev N_House_advance : List Str := (["self", "many", "watch"] : List Str)
theorem sc_House_advance : FnScope N_House_advance ["self", "many", "watch"] (defScope s_House_advance) := ⟨rfl, rfl, rfl, by decide +kernel, rfl, by decide +kernel, by decide +kernel⟩
abbrev s_House_settle : Stmt := inClass (topS 41) 10
abbrev N_House_settle : List Str := (["self", "watch"] : List Str)
theorem sc_House_settle : FnScope N_House_settle ["self", "watch"] (defScope s_House_settle) := ⟨rfl, rfl, rfl, by decide +kernel, rfl, by decide +kernel, by decide +kernel⟩
abbrev s_House_advance_to : Stmt := inClass (topS 41) 11
abbrev N_House_advance_to : List Str := (["self", "goal", "watch", "before", "failed", "acts"] : List Str)
theorem sc_House_advance_to : FnScope N_House_advance_to ["self", "goal", "watch"] (defScope s_House_advance_to) := ⟨rfl, rfl, rfl, by decide +kernel, rfl, by decide +kernel, by decide +kernel⟩
abbrev s_House_perform_until : Stmt := inClass (topS 41) 12
abbrev N_House_perform_until : List Str := (["self", "goal", "watch", "acts", "act"] : List Str)
theorem sc_House_perform_until : FnScope N_House_perform_until ["self", "goal", "watch"] (defScope s_House_perform_until) := ⟨rfl, rfl, rfl, by decide +kernel, rfl, by decide +kernel, by decide +kernel⟩
abbrev s_House_next_act : Stmt := inClass (topS 41) 13
abbrev N_House_next_act : List Str := (["self"] : List Str)
theorem sc_House_next_act : FnScope N_House_next_act ["self"] (defScope s_House_next_act) := ⟨rfl, rfl, rfl, by decide +kernel, rfl, by decide +kernel, by decide +kernel⟩
abbrev s_House_clock : Stmt := inClass (topS 41) 14
abbrev N_House_clock : List Str := (["self"] : List Str)
theorem sc_House_clock : FnScope N_House_clock ["self"] (defScope s_House_clock) := ⟨rfl, rfl, rfl, by decide +kernel, rfl, by decide +kernel, by decide +kernel⟩
abbrev s_House_members : Stmt := inClass (topS 41) 15
abbrev N_House_members : List Str := (["self", "side"] : List Str)
theorem sc_House_members : FnScope N_House_members ["self", "side"] (defScope s_House_members) := ⟨rfl, rfl, rfl, by decide +kernel, rfl, by decide +kernel, by decide +kernel⟩
abbrev s_House_guards : Stmt := inClass (topS 41) 16
abbrev N_House_guards : List Str := (["self", "side"] : List Str)
theorem sc_House_guards : FnScope N_House_guards ["self", "side"] (defScope s_House_guards) := ⟨rfl, rfl, rfl, by decide +kernel, rfl, by decide +kernel, by decide +kernel⟩
abbrev s_House_numbers : Stmt := inClass (topS 41) 17
abbrev N_House_numbers : List Str := (["self", "machine"] : List Str)
theorem sc_House_numbers : FnScope N_House_numbers ["self"] (defScope s_House_numbers) := ⟨rfl, rfl, rfl, by decide +kernel, rfl, by decide +kernel, by decide +kernel⟩
abbrev s_House_rank : Stmt := inClass (topS 41) 18
abbrev N_House_rank : List Str := (["self", "number"] : List Str)
theorem sc_House_rank : FnScope N_House_rank ["self", "number"] (defScope s_House_rank) := ⟨rfl, rfl, rfl, by decide +kernel, rfl, by decide +kernel, by decide +kernel⟩
abbrev s_House_is_satisfied : Stmt := inClass (topS 41) 19
abbrev N_House_is_satisfied : List Str := (["self", "number"] : List Str)
theorem sc_House_is_satisfied : FnScope N_House_is_satisfied ["self", "number"] (defScope s_House_is_satisfied) := ⟨rfl, rfl, rfl, by decide +kernel, rfl, by decide +kernel, by decide +kernel⟩
abbrev s_House_starts : Stmt := inClass (topS 41) 20
abbrev N_House_starts : List Str := (["self", "number"] : List Str)
theorem sc_House_starts : FnScope N_House_starts ["self", "number"] (defScope s_House_starts) := ⟨rfl, rfl, rfl, by decide +kernel, rfl, by decide +kernel, by decide +kernel⟩
abbrev s_House_acts : Stmt := inClass (topS 41) 21
abbrev N_House_acts : List Str := (["self", "number"] : List Str)
theorem sc_House_acts : FnScope N_House_acts ["self", "number"] (defScope s_House_acts) := ⟨rfl, rfl, rfl, by decide +kernel, rfl, by decide +kernel, by decide +kernel⟩
abbrev s_House_facts : Stmt := inClass (topS 41) 22
abbrev N_House_facts : List Str := (["self", "number"] : List Str)
theorem sc_House_facts : FnScope N_House_facts ["self", "number"] (defScope s_House_facts) := ⟨rfl, rfl, rfl, by decide +kernel, rfl, by decide +kernel, by decide +kernel⟩
abbrev s_House_history : Stmt := inClass (topS 41) 23
abbrev N_House_history : List Str := (["self"] : List Str)
theorem sc_House_history : FnScope N_House_history ["self"] (defScope s_House_history) := ⟨rfl, rfl, rfl, by decide +kernel, rfl, by decide +kernel, by decide +kernel⟩
abbrev s_House_undo : Stmt := inClass (topS 41) 24
abbrev N_House_undo : List Str := (["self"] : List Str)
theorem sc_House_undo : FnScope N_House_undo ["self"] (defScope s_House_undo) := ⟨rfl, rfl, rfl, by decide +kernel, rfl, by decide +kernel, by decide +kernel⟩
abbrev s_House_twin : Stmt := inClass (topS 41) 25
abbrev N_House_twin : List Str := (["self", "other"] : List Str)
theorem sc_House_twin : FnScope N_House_twin ["self"] (defScope s_House_twin) := ⟨rfl, rfl, rfl, by decide +kernel, rfl, by decide +kernel, by decide +kernel⟩
abbrev s_most_acts : Stmt := topS 43
abbrev N_most_acts : List Str := (["kinds", "found", "kind"] : List Str)
theorem sc_most_acts : FnScope N_most_acts ["kinds"] (defScope s_most_acts) := ⟨rfl, rfl, rfl, by decide +kernel, rfl, by decide +kernel, by decide +kernel⟩
abbrev s_busiest : Stmt := topS 44
abbrev N_busiest : List Str := (["many", "programs", "length"] : List Str)
theorem sc_busiest : FnScope N_busiest ["many"] (defScope s_busiest) := ⟨rfl, rfl, rfl, by decide +kernel, rfl, by decide +kernel, by decide +kernel⟩
abbrev s__law_purse : Stmt := topS 46
abbrev N__law_purse : List Str := (["_law_script", "_law_at", "_law_cell", "_law_far"] : List Str)
theorem sc__law_purse : FnScope N__law_purse ["_law_script", "_law_at"] (defScope s__law_purse) := ⟨rfl, rfl, rfl, by decide +kernel, rfl, by decide +kernel, by decide +kernel⟩
abbrev s__law_take : Stmt := topS 47
abbrev N__law_take : List Str := (["_law_bag", "_law_many", "_law_digit", "_law_found", "_law_reach"] : List Str)
theorem sc__law_take : FnScope N__law_take ["_law_bag", "_law_many"] (defScope s__law_take) := ⟨rfl, rfl, rfl, by decide +kernel, rfl, by decide +kernel, by decide +kernel⟩
abbrev s__law_alike : Stmt := topS 48
abbrev N__law_alike : List Str := (["_law_found", "_law_due"] : List Str)
theorem sc__law_alike : FnScope N__law_alike ["_law_found", "_law_due"] (defScope s__law_alike) := ⟨rfl, rfl, rfl, by decide +kernel, rfl, by decide +kernel, by decide +kernel⟩
abbrev s__law_refused : Stmt := topS 49
abbrev N__law_refused : List Str := (["_law_house", "_law_thing", "_law_way", "e", "_law_others"] : List Str)
theorem sc__law_refused : FnScope N__law_refused ["_law_house", "_law_thing", "_law_way"] (defScope s__law_refused) := ⟨rfl, rfl, rfl, by decide +kernel, rfl, by decide +kernel, by decide +kernel⟩
abbrev s_law : Stmt := topS 50
abbrev N_law : List Str := (["_law_script", "_law_bag", "_law_many", "_law_kinds", "_law_handed", "_law_due", "_law_kind", "_law_told", "_law_house", "_law_kept", "_law_odd", "_law_thing", "_law_turn", "_law_one", "_law_way"] : List Str)
theorem sc_law : FnScope N_law ["_law_script"] (defScope s_law) := ⟨rfl, rfl, rfl, by decide +kernel, rfl, by decide +kernel, by decide +kernel⟩
structure Txt (w : World) (K : PySem.W.Frag) (mg : Str → Option Value) : Prop where
  m_ValueError : mg "ValueError" = none
  m_LookupError : mg "LookupError" = none
  m_RuntimeError : mg "RuntimeError" = none
  m_abs : mg "abs" = none
  m_repr : mg "repr" = none
  m_isinstance : mg "isinstance" = none
  m_int : mg "int" = none
  m_str : mg "str" = none
  m_len : mg "len" = none
  m_sum : mg "sum" = none
  m_sorted : mg "sorted" = none
  m_list : mg "list" = none
  m_all : mg "all" = none
  m_bool : mg "bool" = none
  m_tuple : mg "tuple" = none
  m_range : mg "range" = none
  m_any : mg "any" = none
  c_MOST_STATEMENTS : ∃ t, mg "MOST_STATEMENTS" = some (.int 24 t)
  c_MOST_DEPTH : ∃ t, mg "MOST_DEPTH" = some (.int 4 t)
  c_LONGEST_WAIT : ∃ t, mg "LONGEST_WAIT" = some (.int 1000000000000000000000000000000 t)
  c_SIZE : ∃ t, mg "SIZE" = some (.int 16 t)
  g_VARIABLES : mg "VARIABLES" = some (.ref (He.ga K "VARIABLES"))
  t_VARIABLES : ∀ H : Hp, SqT K H (He.ga K "VARIABLES") [.str "a", .str "b"]
  g_COMPARISONS : mg "COMPARISONS" = some (.ref (He.ga K "COMPARISONS"))
  t_COMPARISONS : ∀ H : Hp, SqT K H (He.ga K "COMPARISONS") [.str "==", .str "!=", .str "<"]
  g_DIRECTIONS : mg "DIRECTIONS" = some (.ref (He.ga K "DIRECTIONS"))
  t_DIRECTIONS : ∀ H : Hp, SqT K H (He.ga K "DIRECTIONS") [.str "+", .str "-", .str "="]
  g_WORDS : mg "WORDS" = some (.ref (He.ga K "WORDS"))
  d_WORDS : DTab K w (He.ga K "WORDS") [("teller", .ref (tabAt "WORDS" "teller" K)), ("collector", .ref (tabAt "WORDS" "collector" K))]
  t_WORDS_teller : ∀ H : Hp, SqT K H (tabAt "WORDS" "teller" K) [.str "set", .str "add", .str "wait", .str "ask", .str "answer"]
  t_WORDS_collector : ∀ H : Hp, SqT K H (tabAt "WORDS" "collector" K) [.str "set", .str "add", .str "wait", .str "grow", .str "list"]
  g_BODIES : mg "BODIES" = some (.ref (He.ga K "BODIES"))
  d_BODIES : DTab K w (He.ga K "BODIES") [("if", .int 2), ("while", .int 1)]
  g_CHECKS : mg "CHECKS" = some (.ref (He.ga K "CHECKS"))
  d_CHECKS : DTab K w (He.ga K "CHECKS") [("set", .ref (He.ga K "is_set")), ("add", .ref (He.ga K "is_add")), ("wait", .ref (He.ga K "is_wait")), ("ask", .ref (He.ga K "is_ask")), ("answer", .ref (He.ga K "is_answer")), ("grow", .ref (He.ga K "is_one_term")), ("list", .ref (He.ga K "is_one_term"))]
  g_SIDES : mg "SIDES" = some (.ref (He.ga K "SIDES"))
  t_SIDES : ∀ H : Hp, SqT K H (He.ga K "SIDES") [.str "left", .str "right"]
  c_MOST_MACHINES : ∃ t, mg "MOST_MACHINES" = some (.int 8 t)
  c_MOST_STEPS : ∃ t, mg "MOST_STEPS" = some (.int 1000000000000000000000000000000000000000000000000000000000000 t)
  F_NoMachine___init__ : ∃ fd, FunD K "__init__" "NoMachine.__init__" (defArgs s_NoMachine___init__) (defBody s_NoMachine___init__) (defScope s_NoMachine___init__) [] [] (He.ma K (He.ga K "NoMachine") "__init__") fd
  g_is_integer : mg "is_integer" = some (.ref (He.ga K "is_integer"))
  F_is_integer : ∃ fd, FunD K "is_integer" "is_integer" (defArgs s_is_integer) (defBody s_is_integer) (defScope s_is_integer) [] [] (He.ga K "is_integer") fd
  g_is_one_of : mg "is_one_of" = some (.ref (He.ga K "is_one_of"))
  F_is_one_of : ∃ fd, FunD K "is_one_of" "is_one_of" (defArgs s_is_one_of) (defBody s_is_one_of) (defScope s_is_one_of) [] [] (He.ga K "is_one_of") fd
  g_is_value : mg "is_value" = some (.ref (He.ga K "is_value"))
  F_is_value : ∃ fd, FunD K "is_value" "is_value" (defArgs s_is_value) (defBody s_is_value) (defScope s_is_value) [] [] (He.ga K "is_value") fd
  g_is_term : mg "is_term" = some (.ref (He.ga K "is_term"))
  F_is_term : ∃ fd, FunD K "is_term" "is_term" (defArgs s_is_term) (defBody s_is_term) (defScope s_is_term) [] [] (He.ga K "is_term") fd
  g_is_condition : mg "is_condition" = some (.ref (He.ga K "is_condition"))
  F_is_condition : ∃ fd, FunD K "is_condition" "is_condition" (defArgs s_is_condition) (defBody s_is_condition) (defScope s_is_condition) [] [] (He.ga K "is_condition") fd
  g_is_set : mg "is_set" = some (.ref (He.ga K "is_set"))
  F_is_set : ∃ fd, FunD K "is_set" "is_set" (defArgs s_is_set) (defBody s_is_set) (defScope s_is_set) [] [] (He.ga K "is_set") fd
  g_is_add : mg "is_add" = some (.ref (He.ga K "is_add"))
  F_is_add : ∃ fd, FunD K "is_add" "is_add" (defArgs s_is_add) (defBody s_is_add) (defScope s_is_add) [] [] (He.ga K "is_add") fd
  g_is_wait : mg "is_wait" = some (.ref (He.ga K "is_wait"))
  F_is_wait : ∃ fd, FunD K "is_wait" "is_wait" (defArgs s_is_wait) (defBody s_is_wait) (defScope s_is_wait) [] [] (He.ga K "is_wait") fd
  g_is_ask : mg "is_ask" = some (.ref (He.ga K "is_ask"))
  F_is_ask : ∃ fd, FunD K "is_ask" "is_ask" (defArgs s_is_ask) (defBody s_is_ask) (defScope s_is_ask) [] [] (He.ga K "is_ask") fd
  g_is_answer : mg "is_answer" = some (.ref (He.ga K "is_answer"))
  F_is_answer : ∃ fd, FunD K "is_answer" "is_answer" (defArgs s_is_answer) (defBody s_is_answer) (defScope s_is_answer) [] [] (He.ga K "is_answer") fd
  g_is_one_term : mg "is_one_term" = some (.ref (He.ga K "is_one_term"))
  F_is_one_term : ∃ fd, FunD K "is_one_term" "is_one_term" (defArgs s_is_one_term) (defBody s_is_one_term) (defScope s_is_one_term) [] [] (He.ga K "is_one_term") fd
  g_count_block : mg "count_block" = some (.ref (He.ga K "count_block"))
  F_count_block : ∃ fd, FunD K "count_block" "count_block" (defArgs s_count_block) (defBody s_count_block) (defScope s_count_block) [] [] (He.ga K "count_block") fd
  g_count_statement : mg "count_statement" = some (.ref (He.ga K "count_statement"))
  F_count_statement : ∃ fd, FunD K "count_statement" "count_statement" (defArgs s_count_statement) (defBody s_count_statement) (defScope s_count_statement) [] [] (He.ga K "count_statement") fd
  g_count_body : mg "count_body" = some (.ref (He.ga K "count_body"))
  F_count_body : ∃ fd, FunD K "count_body" "count_body" (defArgs s_count_body) (defBody s_count_body) (defScope s_count_body) [] [] (He.ga K "count_body") fd
  g_is_program : mg "is_program" = some (.ref (He.ga K "is_program"))
  F_is_program : ∃ fd, FunD K "is_program" "is_program" (defArgs s_is_program) (defBody s_is_program) (defScope s_is_program) [] [] (He.ga K "is_program") fd
  F_State___init__ : ∃ fd, FunD K "__init__" "State.__init__" (defArgs s_State___init__) (defBody s_State___init__) (defScope s_State___init__) [] [] (He.ma K (He.ga K "State") "__init__") fd
  F_State_twin : ∃ fd, FunD K "twin" "State.twin" (defArgs s_State_twin) (defBody s_State_twin) (defScope s_State_twin) [] [] (He.ma K (He.ga K "State") "twin") fd
  F_State_members : ∃ fd, FunD K "members" "State.members" (defArgs s_State_members) (defBody s_State_members) (defScope s_State_members) [] [] (He.ma K (He.ga K "State") "members") fd
  F_State_machine : ∃ fd, FunD K "machine" "State.machine" (defArgs s_State_machine) (defBody s_State_machine) (defScope s_State_machine) [] [] (He.ma K (He.ga K "State") "machine") fd
  F_State_mention : ∃ fd, FunD K "mention" "State.mention" (defArgs s_State_mention) (defBody s_State_mention) (defScope s_State_mention) [] [] (He.ma K (He.ga K "State") "mention") fd
  F_State_new_position : ∃ fd, FunD K "new_position" "State.new_position" (defArgs s_State_new_position) (defBody s_State_new_position) (defScope s_State_new_position) [] [] (He.ma K (He.ga K "State") "new_position") fd
  F_State_put : ∃ fd, FunD K "put" "State.put" (defArgs s_State_put) (defBody s_State_put) (defScope s_State_put) [] [] (He.ma K (He.ga K "State") "put") fd
  F_State_barred : ∃ fd, FunD K "barred" "State.barred" (defArgs s_State_barred) (defBody s_State_barred) (defScope s_State_barred) [] [] (He.ma K (He.ga K "State") "barred") fd
  F_State_guards : ∃ fd, FunD K "guards" "State.guards" (defArgs s_State_guards) (defBody s_State_guards) (defScope s_State_guards) [] [] (He.ma K (He.ga K "State") "guards") fd
  F_State_arrive : ∃ fd, FunD K "arrive" "State.arrive" (defArgs s_State_arrive) (defBody s_State_arrive) (defScope s_State_arrive) [] [] (He.ma K (He.ga K "State") "arrive") fd
  F_State_withdraw : ∃ fd, FunD K "withdraw" "State.withdraw" (defArgs s_State_withdraw) (defBody s_State_withdraw) (defScope s_State_withdraw) [] [] (He.ma K (He.ga K "State") "withdraw") fd
  F_State_next_act : ∃ fd, FunD K "next_act" "State.next_act" (defArgs s_State_next_act) (defBody s_State_next_act) (defScope s_State_next_act) [] [] (He.ma K (He.ga K "State") "next_act") fd
  F_State_perform : ∃ fd, FunD K "perform" "State.perform" (defArgs s_State_perform) (defBody s_State_perform) (defScope s_State_perform) [] [] (He.ma K (He.ga K "State") "perform") fd
  F_State_summary : ∃ fd, FunD K "summary" "State.summary" (defArgs s_State_summary) (defBody s_State_summary) (defScope s_State_summary) [] [] (He.ma K (He.ga K "State") "summary") fd
  g_check_side : mg "check_side" = some (.ref (He.ga K "check_side"))
  F_check_side : ∃ fd, FunD K "check_side" "check_side" (defArgs s_check_side) (defBody s_check_side) (defScope s_check_side) [] [] (He.ga K "check_side") fd
  F_House___init__ : ∃ fd, FunD K "__init__" "House.__init__" (defArgs s_House___init__) (defBody s_House___init__) (defScope s_House___init__) [] [] (He.ma K (He.ga K "House") "__init__") fd
  F_House___eq__ : ∃ fd, FunD K "__eq__" "House.__eq__" (defArgs s_House___eq__) (defBody s_House___eq__) (defScope s_House___eq__) [] [] (He.ma K (He.ga K "House") "__eq__") fd
  F_House___len__ : ∃ fd, FunD K "__len__" "House.__len__" (defArgs s_House___len__) (defBody s_House___len__) (defScope s_House___len__) [] [] (He.ma K (He.ga K "House") "__len__") fd
  F_House___repr__ : ∃ fd, FunD K "__repr__" "House.__repr__" (defArgs s_House___repr__) (defBody s_House___repr__) (defScope s_House___repr__) [] [] (He.ma K (He.ga K "House") "__repr__") fd
  F_House_check_free : ∃ fd, FunD K "check_free" "House.check_free" (defArgs s_House_check_free) (defBody s_House_check_free) (defScope s_House_check_free) [] [] (He.ma K (He.ga K "House") "check_free") fd
  F_House_present : ∃ fd, FunD K "present" "House.present" (defArgs s_House_present) (defBody s_House_present) (defScope s_House_present) [] [] (He.ma K (He.ga K "House") "present") fd
  F_House_keep : ∃ fd, FunD K "keep" "House.keep" (defArgs s_House_keep) (defBody s_House_keep) (defScope s_House_keep) [] [] (He.ma K (He.ga K "House") "keep") fd
  F_House_arrive : ∃ fd, FunD K "arrive" "House.arrive" (defArgs s_House_arrive) (defBody s_House_arrive) (defScope s_House_arrive) [] [] (He.ma K (He.ga K "House") "arrive") fd
  F_House_withdraw : ∃ fd, FunD K "withdraw" "House.withdraw" (defArgs s_House_withdraw) (defBody s_House_withdraw) (defScope s_House_withdraw) [] [] (He.ma K (He.ga K "House") "withdraw") fd
  F_House_advance : ∃ fd, FunD K "advance" "House.advance" (defArgs s_House_advance) (defBody s_House_advance) (defScope s_House_advance) [.int 1] [("watch", .non)] (He.ma K (He.ga K "House") "advance") fd
  F_House_settle : ∃ fd, FunD K "settle" "House.settle" (defArgs s_House_settle) (defBody s_House_settle) (defScope s_House_settle) [] [("watch", .non)] (He.ma K (He.ga K "House") "settle") fd
  F_House_advance_to : ∃ fd, FunD K "advance_to" "House.advance_to" (defArgs s_House_advance_to) (defBody s_House_advance_to) (defScope s_House_advance_to) [] [] (He.ma K (He.ga K "House") "advance_to") fd
  F_House_perform_until : ∃ fd, FunD K "perform_until" "House.perform_until" (defArgs s_House_perform_until) (defBody s_House_perform_until) (defScope s_House_perform_until) [] [] (He.ma K (He.ga K "House") "perform_until") fd
  F_House_next_act : ∃ fd, FunD K "next_act" "House.next_act" (defArgs s_House_next_act) (defBody s_House_next_act) (defScope s_House_next_act) [] [] (He.ma K (He.ga K "House") "next_act") fd
  F_House_clock : ∃ fd, FunD K "clock" "House.clock" (defArgs s_House_clock) (defBody s_House_clock) (defScope s_House_clock) [] [] (He.ma K (He.ga K "House") "clock") fd
  F_House_members : ∃ fd, FunD K "members" "House.members" (defArgs s_House_members) (defBody s_House_members) (defScope s_House_members) [] [] (He.ma K (He.ga K "House") "members") fd
  F_House_guards : ∃ fd, FunD K "guards" "House.guards" (defArgs s_House_guards) (defBody s_House_guards) (defScope s_House_guards) [] [] (He.ma K (He.ga K "House") "guards") fd
  F_House_numbers : ∃ fd, FunD K "numbers" "House.numbers" (defArgs s_House_numbers) (defBody s_House_numbers) (defScope s_House_numbers) [] [] (He.ma K (He.ga K "House") "numbers") fd
  F_House_rank : ∃ fd, FunD K "rank" "House.rank" (defArgs s_House_rank) (defBody s_House_rank) (defScope s_House_rank) [] [] (He.ma K (He.ga K "House") "rank") fd
  F_House_is_satisfied : ∃ fd, FunD K "is_satisfied" "House.is_satisfied" (defArgs s_House_is_satisfied) (defBody s_House_is_satisfied) (defScope s_House_is_satisfied) [] [] (He.ma K (He.ga K "House") "is_satisfied") fd
  F_House_starts : ∃ fd, FunD K "starts" "House.starts" (defArgs s_House_starts) (defBody s_House_starts) (defScope s_House_starts) [] [] (He.ma K (He.ga K "House") "starts") fd
  F_House_acts : ∃ fd, FunD K "acts" "House.acts" (defArgs s_House_acts) (defBody s_House_acts) (defScope s_House_acts) [] [] (He.ma K (He.ga K "House") "acts") fd
  F_House_facts : ∃ fd, FunD K "facts" "House.facts" (defArgs s_House_facts) (defBody s_House_facts) (defScope s_House_facts) [] [] (He.ma K (He.ga K "House") "facts") fd
  F_House_history : ∃ fd, FunD K "history" "House.history" (defArgs s_House_history) (defBody s_House_history) (defScope s_House_history) [] [] (He.ma K (He.ga K "House") "history") fd
  F_House_undo : ∃ fd, FunD K "undo" "House.undo" (defArgs s_House_undo) (defBody s_House_undo) (defScope s_House_undo) [] [] (He.ma K (He.ga K "House") "undo") fd
  F_House_twin : ∃ fd, FunD K "twin" "House.twin" (defArgs s_House_twin) (defBody s_House_twin) (defScope s_House_twin) [] [] (He.ma K (He.ga K "House") "twin") fd
  g_most_acts : mg "most_acts" = some (.ref (He.ga K "most_acts"))
  F_most_acts : ∃ fd, FunD K "most_acts" "most_acts" (defArgs s_most_acts) (defBody s_most_acts) (defScope s_most_acts) [] [] (He.ga K "most_acts") fd
  g_busiest : mg "busiest" = some (.ref (He.ga K "busiest"))
  F_busiest : ∃ fd, FunD K "busiest" "busiest" (defArgs s_busiest) (defBody s_busiest) (defScope s_busiest) [] [] (He.ga K "busiest") fd
  g__law_purse : mg "_law_purse" = some (.ref (He.ga K "_law_purse"))
  F__law_purse : ∃ fd, FunD K "_law_purse" "_law_purse" (defArgs s__law_purse) (defBody s__law_purse) (defScope s__law_purse) [] [] (He.ga K "_law_purse") fd
  g__law_take : mg "_law_take" = some (.ref (He.ga K "_law_take"))
  F__law_take : ∃ fd, FunD K "_law_take" "_law_take" (defArgs s__law_take) (defBody s__law_take) (defScope s__law_take) [] [] (He.ga K "_law_take") fd
  g__law_alike : mg "_law_alike" = some (.ref (He.ga K "_law_alike"))
  F__law_alike : ∃ fd, FunD K "_law_alike" "_law_alike" (defArgs s__law_alike) (defBody s__law_alike) (defScope s__law_alike) [] [] (He.ga K "_law_alike") fd
  g__law_refused : mg "_law_refused" = some (.ref (He.ga K "_law_refused"))
  F__law_refused : ∃ fd, FunD K "_law_refused" "_law_refused" (defArgs s__law_refused) (defBody s__law_refused) (defScope s__law_refused) [] [] (He.ga K "_law_refused") fd
  g_law : mg "law" = some (.ref (He.ga K "law"))
  F_law : ∃ fd, FunD K "law" "law" (defArgs s_law) (defBody s_law) (defScope s_law) [] [] (He.ga K "law") fd
  g_HouseError : mg "HouseError" = some (.ref (He.ga K "HouseError"))
  g_BadProgram : mg "BadProgram" = some (.ref (He.ga K "BadProgram"))
  g_BadSide : mg "BadSide" = some (.ref (He.ga K "BadSide"))
  g_BadSteps : mg "BadSteps" = some (.ref (He.ga K "BadSteps"))
  g_NoMachine : mg "NoMachine" = some (.ref (He.ga K "NoMachine"))
  g_Busy : mg "Busy" = some (.ref (He.ga K "Busy"))
  g_State : mg "State" = some (.ref (He.ga K "State"))
  g_House : mg "House" = some (.ref (He.ga K "House"))
  cl_State : Cls K (He.ga K "State")
  na_State_now : NoAttr K (He.ga K "State") "now"
  na_State_next_number : NoAttr K (He.ga K "State") "next_number"
  na_State_sets : NoAttr K (He.ga K "State") "sets"
  na_State_machines : NoAttr K (He.ga K "State") "machines"
  na_State_greatest : NoAttr K (He.ga K "State") "greatest"
  me_State_twin : Meth K (He.ga K "State") "twin" (He.ma K (He.ga K "State") "twin")
  me_State_members : Meth K (He.ga K "State") "members" (He.ma K (He.ga K "State") "members")
  me_State_machine : Meth K (He.ga K "State") "machine" (He.ma K (He.ga K "State") "machine")
  me_State_mention : Meth K (He.ga K "State") "mention" (He.ma K (He.ga K "State") "mention")
  me_State_new_position : Meth K (He.ga K "State") "new_position" (He.ma K (He.ga K "State") "new_position")
  me_State_put : Meth K (He.ga K "State") "put" (He.ma K (He.ga K "State") "put")
  me_State_barred : Meth K (He.ga K "State") "barred" (He.ma K (He.ga K "State") "barred")
  me_State_guards : Meth K (He.ga K "State") "guards" (He.ma K (He.ga K "State") "guards")
  me_State_arrive : Meth K (He.ga K "State") "arrive" (He.ma K (He.ga K "State") "arrive")
  me_State_withdraw : Meth K (He.ga K "State") "withdraw" (He.ma K (He.ga K "State") "withdraw")
  me_State_next_act : Meth K (He.ga K "State") "next_act" (He.ma K (He.ga K "State") "next_act")
  me_State_perform : Meth K (He.ga K "State") "perform" (He.ma K (He.ga K "State") "perform")
  me_State_summary : Meth K (He.ga K "State") "summary" (He.ma K (He.ga K "State") "summary")
  mk_State : Mk K (He.ga K "State") (He.ma K (He.ga K "State") "__init__")
  cl_House : Cls K (He.ga K "House")
  na_House_standing : NoAttr K (He.ga K "House") "standing"
  na_House_deeds : NoAttr K (He.ga K "House") "deeds"
  na_House_earlier : NoAttr K (He.ga K "House") "earlier"
  na_House_is_busy : NoAttr K (He.ga K "House") "is_busy"
  me_House___eq__ : Meth K (He.ga K "House") "__eq__" (He.ma K (He.ga K "House") "__eq__")
  me_House___len__ : Meth K (He.ga K "House") "__len__" (He.ma K (He.ga K "House") "__len__")
  me_House___repr__ : Meth K (He.ga K "House") "__repr__" (He.ma K (He.ga K "House") "__repr__")
  me_House_check_free : Meth K (He.ga K "House") "check_free" (He.ma K (He.ga K "House") "check_free")
  me_House_present : Meth K (He.ga K "House") "present" (He.ma K (He.ga K "House") "present")
  me_House_keep : Meth K (He.ga K "House") "keep" (He.ma K (He.ga K "House") "keep")
  me_House_arrive : Meth K (He.ga K "House") "arrive" (He.ma K (He.ga K "House") "arrive")
  me_House_withdraw : Meth K (He.ga K "House") "withdraw" (He.ma K (He.ga K "House") "withdraw")
  me_House_advance : Meth K (He.ga K "House") "advance" (He.ma K (He.ga K "House") "advance")
  me_House_settle : Meth K (He.ga K "House") "settle" (He.ma K (He.ga K "House") "settle")
  me_House_advance_to : Meth K (He.ga K "House") "advance_to" (He.ma K (He.ga K "House") "advance_to")
  me_House_perform_until : Meth K (He.ga K "House") "perform_until" (He.ma K (He.ga K "House") "perform_until")
  me_House_next_act : Meth K (He.ga K "House") "next_act" (He.ma K (He.ga K "House") "next_act")
  me_House_clock : Meth K (He.ga K "House") "clock" (He.ma K (He.ga K "House") "clock")
  me_House_members : Meth K (He.ga K "House") "members" (He.ma K (He.ga K "House") "members")
  me_House_guards : Meth K (He.ga K "House") "guards" (He.ma K (He.ga K "House") "guards")
  me_House_numbers : Meth K (He.ga K "House") "numbers" (He.ma K (He.ga K "House") "numbers")
  me_House_rank : Meth K (He.ga K "House") "rank" (He.ma K (He.ga K "House") "rank")
  me_House_is_satisfied : Meth K (He.ga K "House") "is_satisfied" (He.ma K (He.ga K "House") "is_satisfied")
  me_House_starts : Meth K (He.ga K "House") "starts" (He.ma K (He.ga K "House") "starts")
  me_House_acts : Meth K (He.ga K "House") "acts" (He.ma K (He.ga K "House") "acts")
  me_House_facts : Meth K (He.ga K "House") "facts" (He.ma K (He.ga K "House") "facts")
  me_House_history : Meth K (He.ga K "House") "history" (He.ma K (He.ga K "House") "history")
  me_House_undo : Meth K (He.ga K "House") "undo" (He.ma K (He.ga K "House") "undo")
  me_House_twin : Meth K (He.ga K "House") "twin" (He.ma K (He.ga K "House") "twin")
  mk_House : Mk K (He.ga K "House") (He.ma K (He.ga K "House") "__init__")
  oe_House : OwnE K (He.ga K "House") (He.ma K (He.ga K "House") "__eq__")
  x_HouseError : ExcD K (He.ga K "HouseError") ve "ValueError.__new__"
  x_BadProgram : ExcD K (He.ga K "BadProgram") ve "ValueError.__new__"
  x_BadSide : ExcD K (He.ga K "BadSide") ve "ValueError.__new__"
  x_BadSteps : ExcD K (He.ga K "BadSteps") ve "ValueError.__new__"
  x_Busy : ExcD K (He.ga K "Busy") vre "RuntimeError.__new__"
  ox_NoMachine : OxD K (He.ga K "NoMachine") (He.ma K (He.ga K "NoMachine") "__init__") vle "LookupError.__new__" "number"
  xi_NoMachine : kXt K "LookupError" "LookupError.__init__" = true
  u_HouseError_HouseError : Und K (He.ga K "HouseError") (He.ga K "HouseError") true
  u_HouseError_BadProgram : Und K (He.ga K "HouseError") (He.ga K "BadProgram") false
  u_HouseError_BadSide : Und K (He.ga K "HouseError") (He.ga K "BadSide") false
  u_HouseError_BadSteps : Und K (He.ga K "HouseError") (He.ga K "BadSteps") false
  u_HouseError_NoMachine : Und K (He.ga K "HouseError") (He.ga K "NoMachine") false
  u_HouseError_Busy : Und K (He.ga K "HouseError") (He.ga K "Busy") false
  u_BadProgram_HouseError : Und K (He.ga K "BadProgram") (He.ga K "HouseError") true
  u_BadProgram_BadProgram : Und K (He.ga K "BadProgram") (He.ga K "BadProgram") true
  u_BadProgram_BadSide : Und K (He.ga K "BadProgram") (He.ga K "BadSide") false
  u_BadProgram_BadSteps : Und K (He.ga K "BadProgram") (He.ga K "BadSteps") false
  u_BadProgram_NoMachine : Und K (He.ga K "BadProgram") (He.ga K "NoMachine") false
  u_BadProgram_Busy : Und K (He.ga K "BadProgram") (He.ga K "Busy") false
  u_BadSide_HouseError : Und K (He.ga K "BadSide") (He.ga K "HouseError") true
  u_BadSide_BadProgram : Und K (He.ga K "BadSide") (He.ga K "BadProgram") false
  u_BadSide_BadSide : Und K (He.ga K "BadSide") (He.ga K "BadSide") true
  u_BadSide_BadSteps : Und K (He.ga K "BadSide") (He.ga K "BadSteps") false
  u_BadSide_NoMachine : Und K (He.ga K "BadSide") (He.ga K "NoMachine") false
  u_BadSide_Busy : Und K (He.ga K "BadSide") (He.ga K "Busy") false
  u_BadSteps_HouseError : Und K (He.ga K "BadSteps") (He.ga K "HouseError") true
  u_BadSteps_BadProgram : Und K (He.ga K "BadSteps") (He.ga K "BadProgram") false
  u_BadSteps_BadSide : Und K (He.ga K "BadSteps") (He.ga K "BadSide") false
  u_BadSteps_BadSteps : Und K (He.ga K "BadSteps") (He.ga K "BadSteps") true
  u_BadSteps_NoMachine : Und K (He.ga K "BadSteps") (He.ga K "NoMachine") false
  u_BadSteps_Busy : Und K (He.ga K "BadSteps") (He.ga K "Busy") false
  u_NoMachine_HouseError : Und K (He.ga K "NoMachine") (He.ga K "HouseError") false
  u_NoMachine_BadProgram : Und K (He.ga K "NoMachine") (He.ga K "BadProgram") false
  u_NoMachine_BadSide : Und K (He.ga K "NoMachine") (He.ga K "BadSide") false
  u_NoMachine_BadSteps : Und K (He.ga K "NoMachine") (He.ga K "BadSteps") false
  u_NoMachine_NoMachine : Und K (He.ga K "NoMachine") (He.ga K "NoMachine") true
  u_NoMachine_Busy : Und K (He.ga K "NoMachine") (He.ga K "Busy") false
  u_Busy_HouseError : Und K (He.ga K "Busy") (He.ga K "HouseError") false
  u_Busy_BadProgram : Und K (He.ga K "Busy") (He.ga K "BadProgram") false
  u_Busy_BadSide : Und K (He.ga K "Busy") (He.ga K "BadSide") false
  u_Busy_BadSteps : Und K (He.ga K "Busy") (He.ga K "BadSteps") false
  u_Busy_NoMachine : Und K (He.ga K "Busy") (He.ga K "NoMachine") false
  u_Busy_Busy : Und K (He.ga K "Busy") (He.ga K "Busy") true
  r_HouseError_ValueError : PySem.W.kitOne K (.ref (He.ga K "HouseError")) (.type "ValueError") = some true
  r_BadProgram_ValueError : PySem.W.kitOne K (.ref (He.ga K "BadProgram")) (.type "ValueError") = some true
  r_BadSide_ValueError : PySem.W.kitOne K (.ref (He.ga K "BadSide")) (.type "ValueError") = some true
  r_BadSteps_ValueError : PySem.W.kitOne K (.ref (He.ga K "BadSteps")) (.type "ValueError") = some true
  r_NoMachine_ValueError : PySem.W.kitOne K (.ref (He.ga K "NoMachine")) (.type "ValueError") = some false
  r_Busy_ValueError : PySem.W.kitOne K (.ref (He.ga K "Busy")) (.type "ValueError") = some false
end Nt

namespace Nt
open PySem PySem.Spec PyProof.Rows L2
def d_NoMachine___init__ : He.DefD := ⟨("NoMachine", some "__init__"), "__init__", "NoMachine.__init__", defArgs s_NoMachine___init__, defBody s_NoMachine___init__, defScope s_NoMachine___init__, [], []⟩
def d_is_integer : He.DefD := ⟨("is_integer", none), "is_integer", "is_integer", defArgs s_is_integer, defBody s_is_integer, defScope s_is_integer, [], []⟩
def d_is_one_of : He.DefD := ⟨("is_one_of", none), "is_one_of", "is_one_of", defArgs s_is_one_of, defBody s_is_one_of, defScope s_is_one_of, [], []⟩
def d_is_value : He.DefD := ⟨("is_value", none), "is_value", "is_value", defArgs s_is_value, defBody s_is_value, defScope s_is_value, [], []⟩
def d_is_term : He.DefD := ⟨("is_term", none), "is_term", "is_term", defArgs s_is_term, defBody s_is_term, defScope s_is_term, [], []⟩
def d_is_condition : He.DefD := ⟨("is_condition", none), "is_condition", "is_condition", defArgs s_is_condition, defBody s_is_condition, defScope s_is_condition, [], []⟩
def d_is_set : He.DefD := ⟨("is_set", none), "is_set", "is_set", defArgs s_is_set, defBody s_is_set, defScope s_is_set, [], []⟩
def d_is_add : He.DefD := ⟨("is_add", none), "is_add", "is_add", defArgs s_is_add, defBody s_is_add, defScope s_is_add, [], []⟩
def d_is_wait : He.DefD := ⟨("is_wait", none), "is_wait", "is_wait", defArgs s_is_wait, defBody s_is_wait, defScope s_is_wait, [], []⟩
def d_is_ask : He.DefD := ⟨("is_ask", none), "is_ask", "is_ask", defArgs s_is_ask, defBody s_is_ask, defScope s_is_ask, [], []⟩
def d_is_answer : He.DefD := ⟨("is_answer", none), "is_answer", "is_answer", defArgs s_is_answer, defBody s_is_answer, defScope s_is_answer, [], []⟩
def d_is_one_term : He.DefD := ⟨("is_one_term", none), "is_one_term", "is_one_term", defArgs s_is_one_term, defBody s_is_one_term, defScope s_is_one_term, [], []⟩
def d_count_block : He.DefD := ⟨("count_block", none), "count_block", "count_block", defArgs s_count_block, defBody s_count_block, defScope s_count_block, [], []⟩
def d_count_statement : He.DefD := ⟨("count_statement", none), "count_statement", "count_statement", defArgs s_count_statement, defBody s_count_statement, defScope s_count_statement, [], []⟩
def d_count_body : He.DefD := ⟨("count_body", none), "count_body", "count_body", defArgs s_count_body, defBody s_count_body, defScope s_count_body, [], []⟩
def d_is_program : He.DefD := ⟨("is_program", none), "is_program", "is_program", defArgs s_is_program, defBody s_is_program, defScope s_is_program, [], []⟩
def d_State___init__ : He.DefD := ⟨("State", some "__init__"), "__init__", "State.__init__", defArgs s_State___init__, defBody s_State___init__, defScope s_State___init__, [], []⟩
def d_State_twin : He.DefD := ⟨("State", some "twin"), "twin", "State.twin", defArgs s_State_twin, defBody s_State_twin, defScope s_State_twin, [], []⟩
def d_State_members : He.DefD := ⟨("State", some "members"), "members", "State.members", defArgs s_State_members, defBody s_State_members, defScope s_State_members, [], []⟩
def d_State_machine : He.DefD := ⟨("State", some "machine"), "machine", "State.machine", defArgs s_State_machine, defBody s_State_machine, defScope s_State_machine, [], []⟩
def d_State_mention : He.DefD := ⟨("State", some "mention"), "mention", "State.mention", defArgs s_State_mention, defBody s_State_mention, defScope s_State_mention, [], []⟩
def d_State_new_position : He.DefD := ⟨("State", some "new_position"), "new_position", "State.new_position", defArgs s_State_new_position, defBody s_State_new_position, defScope s_State_new_position, [], []⟩
def d_State_put : He.DefD := ⟨("State", some "put"), "put", "State.put", defArgs s_State_put, defBody s_State_put, defScope s_State_put, [], []⟩
def d_State_barred : He.DefD := ⟨("State", some "barred"), "barred", "State.barred", defArgs s_State_barred, defBody s_State_barred, defScope s_State_barred, [], []⟩
def d_State_guards : He.DefD := ⟨("State", some "guards"), "guards", "State.guards", defArgs s_State_guards, defBody s_State_guards, defScope s_State_guards, [], []⟩
def d_State_arrive : He.DefD := ⟨("State", some "arrive"), "arrive", "State.arrive", defArgs s_State_arrive, defBody s_State_arrive, defScope s_State_arrive, [], []⟩
def d_State_withdraw : He.DefD := ⟨("State", some "withdraw"), "withdraw", "State.withdraw", defArgs s_State_withdraw, defBody s_State_withdraw, defScope s_State_withdraw, [], []⟩
def d_State_next_act : He.DefD := ⟨("State", some "next_act"), "next_act", "State.next_act", defArgs s_State_next_act, defBody s_State_next_act, defScope s_State_next_act, [], []⟩
def d_State_perform : He.DefD := ⟨("State", some "perform"), "perform", "State.perform", defArgs s_State_perform, defBody s_State_perform, defScope s_State_perform, [], []⟩
def d_State_summary : He.DefD := ⟨("State", some "summary"), "summary", "State.summary", defArgs s_State_summary, defBody s_State_summary, defScope s_State_summary, [], []⟩
def d_check_side : He.DefD := ⟨("check_side", none), "check_side", "check_side", defArgs s_check_side, defBody s_check_side, defScope s_check_side, [], []⟩
def d_House___init__ : He.DefD := ⟨("House", some "__init__"), "__init__", "House.__init__", defArgs s_House___init__, defBody s_House___init__, defScope s_House___init__, [], []⟩
def d_House___eq__ : He.DefD := ⟨("House", some "__eq__"), "__eq__", "House.__eq__", defArgs s_House___eq__, defBody s_House___eq__, defScope s_House___eq__, [], []⟩
def d_House___len__ : He.DefD := ⟨("House", some "__len__"), "__len__", "House.__len__", defArgs s_House___len__, defBody s_House___len__, defScope s_House___len__, [], []⟩
def d_House___repr__ : He.DefD := ⟨("House", some "__repr__"), "__repr__", "House.__repr__", defArgs s_House___repr__, defBody s_House___repr__, defScope s_House___repr__, [], []⟩
def d_House_check_free : He.DefD := ⟨("House", some "check_free"), "check_free", "House.check_free", defArgs s_House_check_free, defBody s_House_check_free, defScope s_House_check_free, [], []⟩
def d_House_present : He.DefD := ⟨("House", some "present"), "present", "House.present", defArgs s_House_present, defBody s_House_present, defScope s_House_present, [], []⟩
def d_House_keep : He.DefD := ⟨("House", some "keep"), "keep", "House.keep", defArgs s_House_keep, defBody s_House_keep, defScope s_House_keep, [], []⟩
def d_House_arrive : He.DefD := ⟨("House", some "arrive"), "arrive", "House.arrive", defArgs s_House_arrive, defBody s_House_arrive, defScope s_House_arrive, [], []⟩
def d_House_withdraw : He.DefD := ⟨("House", some "withdraw"), "withdraw", "House.withdraw", defArgs s_House_withdraw, defBody s_House_withdraw, defScope s_House_withdraw, [], []⟩
def d_House_advance : He.DefD := ⟨("House", some "advance"), "advance", "House.advance", defArgs s_House_advance, defBody s_House_advance, defScope s_House_advance, [.int 1], [("watch", .non)]⟩
def d_House_settle : He.DefD := ⟨("House", some "settle"), "settle", "House.settle", defArgs s_House_settle, defBody s_House_settle, defScope s_House_settle, [], [("watch", .non)]⟩
def d_House_advance_to : He.DefD := ⟨("House", some "advance_to"), "advance_to", "House.advance_to", defArgs s_House_advance_to, defBody s_House_advance_to, defScope s_House_advance_to, [], []⟩
def d_House_perform_until : He.DefD := ⟨("House", some "perform_until"), "perform_until", "House.perform_until", defArgs s_House_perform_until, defBody s_House_perform_until, defScope s_House_perform_until, [], []⟩
def d_House_next_act : He.DefD := ⟨("House", some "next_act"), "next_act", "House.next_act", defArgs s_House_next_act, defBody s_House_next_act, defScope s_House_next_act, [], []⟩
def d_House_clock : He.DefD := ⟨("House", some "clock"), "clock", "House.clock", defArgs s_House_clock, defBody s_House_clock, defScope s_House_clock, [], []⟩
def d_House_members : He.DefD := ⟨("House", some "members"), "members", "House.members", defArgs s_House_members, defBody s_House_members, defScope s_House_members, [], []⟩
def d_House_guards : He.DefD := ⟨("House", some "guards"), "guards", "House.guards", defArgs s_House_guards, defBody s_House_guards, defScope s_House_guards, [], []⟩
def d_House_numbers : He.DefD := ⟨("House", some "numbers"), "numbers", "House.numbers", defArgs s_House_numbers, defBody s_House_numbers, defScope s_House_numbers, [], []⟩
def d_House_rank : He.DefD := ⟨("House", some "rank"), "rank", "House.rank", defArgs s_House_rank, defBody s_House_rank, defScope s_House_rank, [], []⟩
def d_House_is_satisfied : He.DefD := ⟨("House", some "is_satisfied"), "is_satisfied", "House.is_satisfied", defArgs s_House_is_satisfied, defBody s_House_is_satisfied, defScope s_House_is_satisfied, [], []⟩
def d_House_starts : He.DefD := ⟨("House", some "starts"), "starts", "House.starts", defArgs s_House_starts, defBody s_House_starts, defScope s_House_starts, [], []⟩
def d_House_acts : He.DefD := ⟨("House", some "acts"), "acts", "House.acts", defArgs s_House_acts, defBody s_House_acts, defScope s_House_acts, [], []⟩
def d_House_facts : He.DefD := ⟨("House", some "facts"), "facts", "House.facts", defArgs s_House_facts, defBody s_House_facts, defScope s_House_facts, [], []⟩
def d_House_history : He.DefD := ⟨("House", some "history"), "history", "House.history", defArgs s_House_history, defBody s_House_history, defScope s_House_history, [], []⟩
def d_House_undo : He.DefD := ⟨("House", some "undo"), "undo", "House.undo", defArgs s_House_undo, defBody s_House_undo, defScope s_House_undo, [], []⟩
def d_House_twin : He.DefD := ⟨("House", some "twin"), "twin", "House.twin", defArgs s_House_twin, defBody s_House_twin, defScope s_House_twin, [], []⟩
def d_most_acts : He.DefD := ⟨("most_acts", none), "most_acts", "most_acts", defArgs s_most_acts, defBody s_most_acts, defScope s_most_acts, [], []⟩
def d_busiest : He.DefD := ⟨("busiest", none), "busiest", "busiest", defArgs s_busiest, defBody s_busiest, defScope s_busiest, [], []⟩
def d__law_purse : He.DefD := ⟨("_law_purse", none), "_law_purse", "_law_purse", defArgs s__law_purse, defBody s__law_purse, defScope s__law_purse, [], []⟩
def d__law_take : He.DefD := ⟨("_law_take", none), "_law_take", "_law_take", defArgs s__law_take, defBody s__law_take, defScope s__law_take, [], []⟩
def d__law_alike : He.DefD := ⟨("_law_alike", none), "_law_alike", "_law_alike", defArgs s__law_alike, defBody s__law_alike, defScope s__law_alike, [], []⟩
def d__law_refused : He.DefD := ⟨("_law_refused", none), "_law_refused", "_law_refused", defArgs s__law_refused, defBody s__law_refused, defScope s__law_refused, [], []⟩
def d_law : He.DefD := ⟨("law", none), "law", "law", defArgs s_law, defBody s_law, defScope s_law, [], []⟩
def fa0 : List He.Fa := ([.free "ValueError", .free "LookupError", .free "RuntimeError", .free "abs", .free "repr", .free "isinstance", .free "int", .free "str", .free "len", .free "sum", .free "sorted", .free "list", .free "all", .free "bool", .free "tuple", .free "range", .free "any", .int "MOST_STATEMENTS" 24, .int "MOST_DEPTH" 4, .int "LONGEST_WAIT" 1000000000000000000000000000000, .int "SIZE" 16, .glo "VARIABLES", .glo "COMPARISONS", .glo "DIRECTIONS", .glo "WORDS", .glo "BODIES", .glo "CHECKS", .glo "SIDES", .int "MOST_MACHINES" 8, .int "MOST_STEPS" 1000000000000000000000000000000000000000000000000000000000000] : List He.Fa) ++ ([.glo "is_integer", .glo "is_one_of", .glo "is_value", .glo "is_term", .glo "is_condition", .glo "is_set", .glo "is_add", .glo "is_wait", .glo "is_ask", .glo "is_answer", .glo "is_one_term", .glo "count_block", .glo "count_statement", .glo "count_body", .glo "is_program", .glo "check_side", .glo "most_acts", .glo "busiest", .glo "_law_purse", .glo "_law_take", .glo "_law_alike", .glo "_law_refused", .glo "law", .glo "HouseError", .glo "BadProgram", .glo "BadSide"] : List He.Fa)
def fn0 : List He.DefD := ([d_NoMachine___init__, d_is_integer, d_is_one_of, d_is_value, d_is_term, d_is_condition, d_is_set, d_is_add, d_is_wait, d_is_ask, d_is_answer, d_is_one_term, d_count_block, d_count_statement, d_count_body, d_is_program, d_State___init__, d_State_twin, d_State_members, d_State_machine, d_State_mention, d_State_new_position, d_State_put, d_State_barred, d_State_guards, d_State_arrive, d_State_withdraw, d_State_next_act, d_State_perform, d_State_summary] : List He.DefD) ++ ([d_check_side, d_House___init__] : List He.DefD)
def ts0 : List He.Tab := ([(fun K => He.ga K "WORDS", ["teller", "collector"])] : List He.Tab)
def exs0 (K : PySem.W.Frag) : List Bool := ([(kTup K (He.ga K "VARIABLES") [.str "a", .str "b"]), (kTup K (He.ga K "COMPARISONS") [.str "==", .str "!=", .str "<"]), (kTup K (He.ga K "DIRECTIONS") [.str "+", .str "-", .str "="]), (kTab K (He.ga K "WORDS") [("teller", .adr (tabAt "WORDS" "teller")), ("collector", .adr (tabAt "WORDS" "collector"))]), (kTup K (tabAt "WORDS" "teller" K) [.str "set", .str "add", .str "wait", .str "ask", .str "answer"]), (kTup K (tabAt "WORDS" "collector" K) [.str "set", .str "add", .str "wait", .str "grow", .str "list"]), (kTab K (He.ga K "BODIES") [("if", .int 2), ("while", .int 1)]), (kTab K (He.ga K "CHECKS") [("set", .glo "is_set"), ("add", .glo "is_add"), ("wait", .glo "is_wait"), ("ask", .glo "is_ask"), ("answer", .glo "is_answer"), ("grow", .glo "is_one_term"), ("list", .glo "is_one_term")]), (kTup K (He.ga K "SIDES") [.str "left", .str "right"]), (kExc K (He.ga K "HouseError") ve "ValueError.__new__"), (kExc K (He.ga K "BadProgram") ve "ValueError.__new__"), (kExc K (He.ga K "BadSide") ve "ValueError.__new__"), (kExc K (He.ga K "BadSteps") ve "ValueError.__new__"), (kExc K (He.ga K "Busy") vre "RuntimeError.__new__"), (kOx K (He.ga K "NoMachine") (He.ma K (He.ga K "NoMachine") "__init__") vle "LookupError.__new__" "number"), (kXt K "LookupError" "LookupError.__init__"), (kOwnE K (He.ga K "House") (He.ma K (He.ga K "House") "__eq__")), (kUnd K (He.ga K "HouseError") (He.ga K "HouseError") true), (kUnd K (He.ga K "HouseError") (He.ga K "BadProgram") false), (kUnd K (He.ga K "HouseError") (He.ga K "BadSide") false), (kUnd K (He.ga K "HouseError") (He.ga K "BadSteps") false), (kUnd K (He.ga K "HouseError") (He.ga K "NoMachine") false), (kUnd K (He.ga K "HouseError") (He.ga K "Busy") false), (kUnd K (He.ga K "BadProgram") (He.ga K "HouseError") true), (kUnd K (He.ga K "BadProgram") (He.ga K "BadProgram") true), (kUnd K (He.ga K "BadProgram") (He.ga K "BadSide") false), (kUnd K (He.ga K "BadProgram") (He.ga K "BadSteps") false), (kUnd K (He.ga K "BadProgram") (He.ga K "NoMachine") false), (kUnd K (He.ga K "BadProgram") (He.ga K "Busy") false)] : List Bool)
def fa1 : List He.Fa := ([.glo "BadSteps", .glo "NoMachine", .glo "Busy", .glo "State", .glo "House", .cls "State", .noat "State" "now", .noat "State" "next_number", .noat "State" "sets", .noat "State" "machines", .noat "State" "greatest", .meth "State" "twin", .meth "State" "members", .meth "State" "machine", .meth "State" "mention", .meth "State" "new_position", .meth "State" "put", .meth "State" "barred", .meth "State" "guards", .meth "State" "arrive", .meth "State" "withdraw", .meth "State" "next_act", .meth "State" "perform", .meth "State" "summary", .mkr "State", .cls "House", .noat "House" "standing", .noat "House" "deeds", .noat "House" "earlier", .noat "House" "is_busy"] : List He.Fa) ++ ([.meth "House" "__eq__", .meth "House" "__len__", .meth "House" "__repr__", .meth "House" "check_free", .meth "House" "present", .meth "House" "keep", .meth "House" "arrive", .meth "House" "withdraw", .meth "House" "advance", .meth "House" "settle", .meth "House" "advance_to", .meth "House" "perform_until", .meth "House" "next_act", .meth "House" "clock", .meth "House" "members", .meth "House" "guards", .meth "House" "numbers", .meth "House" "rank", .meth "House" "is_satisfied", .meth "House" "starts", .meth "House" "acts", .meth "House" "facts", .meth "House" "history", .meth "House" "undo", .meth "House" "twin", .mkr "House"] : List He.Fa)
def fn1 : List He.DefD := ([d_House___eq__, d_House___len__, d_House___repr__, d_House_check_free, d_House_present, d_House_keep, d_House_arrive, d_House_withdraw, d_House_advance, d_House_settle, d_House_advance_to, d_House_perform_until, d_House_next_act, d_House_clock, d_House_members, d_House_guards, d_House_numbers, d_House_rank, d_House_is_satisfied, d_House_starts, d_House_acts, d_House_facts, d_House_history, d_House_undo, d_House_twin, d_most_acts, d_busiest, d__law_purse, d__law_take, d__law_alike] : List He.DefD) ++ ([d__law_refused, d_law] : List He.DefD)
def ts1 : List He.Tab := ([(fun K => He.ga K "BODIES", ["if", "while"]), (fun K => He.ga K "CHECKS", ["set", "add", "wait", "ask", "answer", "grow", "list"])] : List He.Tab)
def exs1 (K : PySem.W.Frag) : List Bool := ([(kUnd K (He.ga K "BadSide") (He.ga K "HouseError") true), (kUnd K (He.ga K "BadSide") (He.ga K "BadProgram") false), (kUnd K (He.ga K "BadSide") (He.ga K "BadSide") true), (kUnd K (He.ga K "BadSide") (He.ga K "BadSteps") false), (kUnd K (He.ga K "BadSide") (He.ga K "NoMachine") false), (kUnd K (He.ga K "BadSide") (He.ga K "Busy") false), (kUnd K (He.ga K "BadSteps") (He.ga K "HouseError") true), (kUnd K (He.ga K "BadSteps") (He.ga K "BadProgram") false), (kUnd K (He.ga K "BadSteps") (He.ga K "BadSide") false), (kUnd K (He.ga K "BadSteps") (He.ga K "BadSteps") true), (kUnd K (He.ga K "BadSteps") (He.ga K "NoMachine") false), (kUnd K (He.ga K "BadSteps") (He.ga K "Busy") false), (kUnd K (He.ga K "NoMachine") (He.ga K "HouseError") false), (kUnd K (He.ga K "NoMachine") (He.ga K "BadProgram") false), (kUnd K (He.ga K "NoMachine") (He.ga K "BadSide") false), (kUnd K (He.ga K "NoMachine") (He.ga K "BadSteps") false), (kUnd K (He.ga K "NoMachine") (He.ga K "NoMachine") true), (kUnd K (He.ga K "NoMachine") (He.ga K "Busy") false), (kUnd K (He.ga K "Busy") (He.ga K "HouseError") false), (kUnd K (He.ga K "Busy") (He.ga K "BadProgram") false), (kUnd K (He.ga K "Busy") (He.ga K "BadSide") false), (kUnd K (He.ga K "Busy") (He.ga K "BadSteps") false), (kUnd K (He.ga K "Busy") (He.ga K "NoMachine") false), (kUnd K (He.ga K "Busy") (He.ga K "Busy") true), (decide (PySem.W.kitOne K (.ref (He.ga K "HouseError")) (.type "ValueError") = some true)), (decide (PySem.W.kitOne K (.ref (He.ga K "BadProgram")) (.type "ValueError") = some true)), (decide (PySem.W.kitOne K (.ref (He.ga K "BadSide")) (.type "ValueError") = some true)), (decide (PySem.W.kitOne K (.ref (He.ga K "BadSteps")) (.type "ValueError") = some true)), (decide (PySem.W.kitOne K (.ref (He.ga K "NoMachine")) (.type "ValueError") = some false)), (decide (PySem.W.kitOne K (.ref (He.ga K "Busy")) (.type "ValueError") = some false))] : List Bool)
abbrev fa : List He.Fa := (fa0 ++ fa1)
abbrev fn : List He.DefD := (fn0 ++ fn1)
abbrev ts : List He.Tab := (ts0 ++ ts1)
abbrev exs (K : PySem.W.Frag) : List Bool := (exs0 K ++ exs1 K)
abbrev R : PySem.W.OpenRow := PySem.W.OpenLaw.row PySem.Challenge.rw_neithertells_k47_bounds
abbrev hk : PySem.W.Hook := hookY 5 fa fn ts (fun K => (exs K).all id)
abbrev ob (s : PySem.W.SharedT) : He.AlX := obP 5 fa fn ts exs s
theorem ob_eq (s : PySem.W.SharedT) : ob s = hk.obs s.abs := obsY_eq (HandSHeadRun.getT_eq s)
def looseN : List Str := (["_wall", "__name__", "HouseError", "BadProgram", "BadSide", "BadSteps", "NoMachine", "Busy", "MOST_STATEMENTS", "MOST_DEPTH", "LONGEST_WAIT", "SIZE", "VARIABLES", "COMPARISONS", "DIRECTIONS", "WORDS", "BODIES", "is_integer", "is_one_of", "is_value", "is_term", "is_condition", "is_set", "is_add", "is_wait", "is_ask", "is_answer", "is_one_term", "CHECKS", "count_block"] : List Str) ++ (["count_statement", "count_body", "is_program", "State", "SIDES", "MOST_MACHINES", "MOST_STEPS", "check_side", "House", "most_acts", "busiest", "_law_purse", "_law_take", "_law_alike", "_law_refused"] : List Str)
set_option maxHeartbeats 0 in
theorem rlF (w : World) : RunP R 8000 (lookP R (PySem.W.view R.prog [50]) looseN (w.withFollow "special-get-raises" false)) (true, PySem.W.openGood (PySem.W.view R.prog [50]) looseN) (w.withFollow "special-get-raises" false) := RunP.mk fun os => by kernel_rfl
set_option maxHeartbeats 0 in
theorem rlT (w : World) : RunP R 8000 (lookP R (PySem.W.view R.prog [50]) looseN (w.withFollow "special-get-raises" true)) (true, PySem.W.openGood (PySem.W.view R.prog [50]) looseN) (w.withFollow "special-get-raises" true) := RunP.mk fun os => by kernel_rfl
theorem rl (w : World) : RunP R 8000 (lookP R (PySem.W.view R.prog [50]) looseN w) (true, PySem.W.openGood (PySem.W.view R.prog [50]) looseN) w := PySem.W.byRow2 "special-get-raises" (P := fun w => RunP R 8000 (lookP R (PySem.W.view R.prog [50]) looseN w) (true, PySem.W.openGood (PySem.W.view R.prog [50]) looseN) w) rlF rlT w
set_option maxHeartbeats 0 in
theorem rp0F (w : World) : RunP R 8000 (obP 5 fa0 fn0 ts0 exs0) (He.valX fn0 ts0 (w.withFollow "special-get-raises" false)) (w.withFollow "special-get-raises" false) := RunP.mk fun os => by kernel_rfl
set_option maxHeartbeats 0 in
theorem rp0T (w : World) : RunP R 8000 (obP 5 fa0 fn0 ts0 exs0) (He.valX fn0 ts0 (w.withFollow "special-get-raises" true)) (w.withFollow "special-get-raises" true) := RunP.mk fun os => by kernel_rfl
theorem rp0 (w : World) : RunP R 8000 (obP 5 fa0 fn0 ts0 exs0) (He.valX fn0 ts0 w) w := PySem.W.byRow2 "special-get-raises" (P := fun w => RunP R 8000 (obP 5 fa0 fn0 ts0 exs0) (He.valX fn0 ts0 w) w) rp0F rp0T w
set_option maxHeartbeats 0 in
theorem rp1F (w : World) : RunP R 8000 (obP 5 fa1 fn1 ts1 exs1) (He.valX fn1 ts1 (w.withFollow "special-get-raises" false)) (w.withFollow "special-get-raises" false) := RunP.mk fun os => by kernel_rfl
set_option maxHeartbeats 0 in
theorem rp1T (w : World) : RunP R 8000 (obP 5 fa1 fn1 ts1 exs1) (He.valX fn1 ts1 (w.withFollow "special-get-raises" true)) (w.withFollow "special-get-raises" true) := RunP.mk fun os => by kernel_rfl
theorem rp1 (w : World) : RunP R 8000 (obP 5 fa1 fn1 ts1 exs1) (He.valX fn1 ts1 w) w := PySem.W.byRow2 "special-get-raises" (P := fun w => RunP R 8000 (obP 5 fa1 fn1 ts1 exs1) (He.valX fn1 ts1 w) w) rp1F rp1T w
theorem rq1 (w : World) : RunP R 8000 (obP 5 (fa0 ++ fa1) (fn0 ++ fn1) (ts0 ++ ts1) (fun K => exs0 K ++ exs1 K)) (He.valX (fn0 ++ fn1) (ts0 ++ ts1) w) w := RunP.app (rp0 w) (rp1 w)
theorem run (w : World) : HandSHeadRun.RunEq R (PySem.W.view R.prog [50]) hk ob 8000 looseN w := RunP.eq (fa := fa) (fn := fn) (ts := ts) (ex := exs) (rl w) (rq1 w)
theorem ex_at {K : PySem.W.Frag} (h : (exs K).all id = true) (i : Nat) {b : Bool} (e : (exs K)[i]? = some b := by rfl) : b = true := by
  have h1 := List.all_eq_true.mp h b (List.mem_of_getElem? e)
  exact h1
theorem txt_mk {w : World} {K : PySem.W.Frag} {h : Heap} {mg : Str → Option Value} (X : K.In h) (G : h.Ns mainGlobals mg) (c : He.SaysX fa fn ts [] (fun K => (exs K).all id) w h K) : Txt w K mg where
  m_ValueError := He.free_ok X G (c.t.d.fact 0)
  m_LookupError := He.free_ok X G (c.t.d.fact 1)
  m_RuntimeError := He.free_ok X G (c.t.d.fact 2)
  m_abs := He.free_ok X G (c.t.d.fact 3)
  m_repr := He.free_ok X G (c.t.d.fact 4)
  m_isinstance := He.free_ok X G (c.t.d.fact 5)
  m_int := He.free_ok X G (c.t.d.fact 6)
  m_str := He.free_ok X G (c.t.d.fact 7)
  m_len := He.free_ok X G (c.t.d.fact 8)
  m_sum := He.free_ok X G (c.t.d.fact 9)
  m_sorted := He.free_ok X G (c.t.d.fact 10)
  m_list := He.free_ok X G (c.t.d.fact 11)
  m_all := He.free_ok X G (c.t.d.fact 12)
  m_bool := He.free_ok X G (c.t.d.fact 13)
  m_tuple := He.free_ok X G (c.t.d.fact 14)
  m_range := He.free_ok X G (c.t.d.fact 15)
  m_any := He.free_ok X G (c.t.d.fact 16)
  c_MOST_STATEMENTS := He.int_ok X G (c.t.d.fact 17)
  c_MOST_DEPTH := He.int_ok X G (c.t.d.fact 18)
  c_LONGEST_WAIT := He.int_ok X G (c.t.d.fact 19)
  c_SIZE := He.int_ok X G (c.t.d.fact 20)
  g_VARIABLES := He.glo_ok X G (c.t.d.fact 21)
  t_VARIABLES := kTup_ok (ex_at c.more 0 (b := (kTup K (He.ga K "VARIABLES") [.str "a", .str "b"])) rfl)
  g_COMPARISONS := He.glo_ok X G (c.t.d.fact 22)
  t_COMPARISONS := kTup_ok (ex_at c.more 1 (b := (kTup K (He.ga K "COMPARISONS") [.str "==", .str "!=", .str "<"])) rfl)
  g_DIRECTIONS := He.glo_ok X G (c.t.d.fact 23)
  t_DIRECTIONS := kTup_ok (ex_at c.more 2 (b := (kTup K (He.ga K "DIRECTIONS") [.str "+", .str "-", .str "="])) rfl)
  g_WORDS := He.glo_ok X G (c.t.d.fact 24)
  d_WORDS := kTab_ok (ex_at c.more 3 (b := (kTab K (He.ga K "WORDS") [("teller", .adr (tabAt "WORDS" "teller")), ("collector", .adr (tabAt "WORDS" "collector"))])) rfl) (c.t.tab 0 (t := (fun K => He.ga K "WORDS", ["teller", "collector"])) rfl)
  t_WORDS_teller := kTup_ok (ex_at c.more 4 (b := (kTup K (tabAt "WORDS" "teller" K) [.str "set", .str "add", .str "wait", .str "ask", .str "answer"])) rfl)
  t_WORDS_collector := kTup_ok (ex_at c.more 5 (b := (kTup K (tabAt "WORDS" "collector" K) [.str "set", .str "add", .str "wait", .str "grow", .str "list"])) rfl)
  g_BODIES := He.glo_ok X G (c.t.d.fact 25)
  d_BODIES := kTab_ok (ex_at c.more 6 (b := (kTab K (He.ga K "BODIES") [("if", .int 2), ("while", .int 1)])) rfl) (c.t.tab 1 (t := (fun K => He.ga K "BODIES", ["if", "while"])) rfl)
  g_CHECKS := He.glo_ok X G (c.t.d.fact 26)
  d_CHECKS := kTab_ok (ex_at c.more 7 (b := (kTab K (He.ga K "CHECKS") [("set", .glo "is_set"), ("add", .glo "is_add"), ("wait", .glo "is_wait"), ("ask", .glo "is_ask"), ("answer", .glo "is_answer"), ("grow", .glo "is_one_term"), ("list", .glo "is_one_term")])) rfl) (c.t.tab 2 (t := (fun K => He.ga K "CHECKS", ["set", "add", "wait", "ask", "answer", "grow", "list"])) rfl)
  g_SIDES := He.glo_ok X G (c.t.d.fact 27)
  t_SIDES := kTup_ok (ex_at c.more 8 (b := (kTup K (He.ga K "SIDES") [.str "left", .str "right"])) rfl)
  c_MOST_MACHINES := He.int_ok X G (c.t.d.fact 28)
  c_MOST_STEPS := He.int_ok X G (c.t.d.fact 29)
  F_NoMachine___init__ := c.t.d.def_ 0 (d := d_NoMachine___init__) rfl
  g_is_integer := He.glo_ok X G (c.t.d.fact 30)
  F_is_integer := c.t.d.def_ 1 (d := d_is_integer) rfl
  g_is_one_of := He.glo_ok X G (c.t.d.fact 31)
  F_is_one_of := c.t.d.def_ 2 (d := d_is_one_of) rfl
  g_is_value := He.glo_ok X G (c.t.d.fact 32)
  F_is_value := c.t.d.def_ 3 (d := d_is_value) rfl
  g_is_term := He.glo_ok X G (c.t.d.fact 33)
  F_is_term := c.t.d.def_ 4 (d := d_is_term) rfl
  g_is_condition := He.glo_ok X G (c.t.d.fact 34)
  F_is_condition := c.t.d.def_ 5 (d := d_is_condition) rfl
  g_is_set := He.glo_ok X G (c.t.d.fact 35)
  F_is_set := c.t.d.def_ 6 (d := d_is_set) rfl
  g_is_add := He.glo_ok X G (c.t.d.fact 36)
  F_is_add := c.t.d.def_ 7 (d := d_is_add) rfl
  g_is_wait := He.glo_ok X G (c.t.d.fact 37)
  F_is_wait := c.t.d.def_ 8 (d := d_is_wait) rfl
  g_is_ask := He.glo_ok X G (c.t.d.fact 38)
  F_is_ask := c.t.d.def_ 9 (d := d_is_ask) rfl
  g_is_answer := He.glo_ok X G (c.t.d.fact 39)
  F_is_answer := c.t.d.def_ 10 (d := d_is_answer) rfl
  g_is_one_term := He.glo_ok X G (c.t.d.fact 40)
  F_is_one_term := c.t.d.def_ 11 (d := d_is_one_term) rfl
  g_count_block := He.glo_ok X G (c.t.d.fact 41)
  F_count_block := c.t.d.def_ 12 (d := d_count_block) rfl
  g_count_statement := He.glo_ok X G (c.t.d.fact 42)
  F_count_statement := c.t.d.def_ 13 (d := d_count_statement) rfl
  g_count_body := He.glo_ok X G (c.t.d.fact 43)
  F_count_body := c.t.d.def_ 14 (d := d_count_body) rfl
  g_is_program := He.glo_ok X G (c.t.d.fact 44)
  F_is_program := c.t.d.def_ 15 (d := d_is_program) rfl
  F_State___init__ := c.t.d.def_ 16 (d := d_State___init__) rfl
  F_State_twin := c.t.d.def_ 17 (d := d_State_twin) rfl
  F_State_members := c.t.d.def_ 18 (d := d_State_members) rfl
  F_State_machine := c.t.d.def_ 19 (d := d_State_machine) rfl
  F_State_mention := c.t.d.def_ 20 (d := d_State_mention) rfl
  F_State_new_position := c.t.d.def_ 21 (d := d_State_new_position) rfl
  F_State_put := c.t.d.def_ 22 (d := d_State_put) rfl
  F_State_barred := c.t.d.def_ 23 (d := d_State_barred) rfl
  F_State_guards := c.t.d.def_ 24 (d := d_State_guards) rfl
  F_State_arrive := c.t.d.def_ 25 (d := d_State_arrive) rfl
  F_State_withdraw := c.t.d.def_ 26 (d := d_State_withdraw) rfl
  F_State_next_act := c.t.d.def_ 27 (d := d_State_next_act) rfl
  F_State_perform := c.t.d.def_ 28 (d := d_State_perform) rfl
  F_State_summary := c.t.d.def_ 29 (d := d_State_summary) rfl
  g_check_side := He.glo_ok X G (c.t.d.fact 45)
  F_check_side := c.t.d.def_ 30 (d := d_check_side) rfl
  F_House___init__ := c.t.d.def_ 31 (d := d_House___init__) rfl
  F_House___eq__ := c.t.d.def_ 32 (d := d_House___eq__) rfl
  F_House___len__ := c.t.d.def_ 33 (d := d_House___len__) rfl
  F_House___repr__ := c.t.d.def_ 34 (d := d_House___repr__) rfl
  F_House_check_free := c.t.d.def_ 35 (d := d_House_check_free) rfl
  F_House_present := c.t.d.def_ 36 (d := d_House_present) rfl
  F_House_keep := c.t.d.def_ 37 (d := d_House_keep) rfl
  F_House_arrive := c.t.d.def_ 38 (d := d_House_arrive) rfl
  F_House_withdraw := c.t.d.def_ 39 (d := d_House_withdraw) rfl
  F_House_advance := c.t.d.def_ 40 (d := d_House_advance) rfl
  F_House_settle := c.t.d.def_ 41 (d := d_House_settle) rfl
  F_House_advance_to := c.t.d.def_ 42 (d := d_House_advance_to) rfl
  F_House_perform_until := c.t.d.def_ 43 (d := d_House_perform_until) rfl
  F_House_next_act := c.t.d.def_ 44 (d := d_House_next_act) rfl
  F_House_clock := c.t.d.def_ 45 (d := d_House_clock) rfl
  F_House_members := c.t.d.def_ 46 (d := d_House_members) rfl
  F_House_guards := c.t.d.def_ 47 (d := d_House_guards) rfl
  F_House_numbers := c.t.d.def_ 48 (d := d_House_numbers) rfl
  F_House_rank := c.t.d.def_ 49 (d := d_House_rank) rfl
  F_House_is_satisfied := c.t.d.def_ 50 (d := d_House_is_satisfied) rfl
  F_House_starts := c.t.d.def_ 51 (d := d_House_starts) rfl
  F_House_acts := c.t.d.def_ 52 (d := d_House_acts) rfl
  F_House_facts := c.t.d.def_ 53 (d := d_House_facts) rfl
  F_House_history := c.t.d.def_ 54 (d := d_House_history) rfl
  F_House_undo := c.t.d.def_ 55 (d := d_House_undo) rfl
  F_House_twin := c.t.d.def_ 56 (d := d_House_twin) rfl
  g_most_acts := He.glo_ok X G (c.t.d.fact 46)
  F_most_acts := c.t.d.def_ 57 (d := d_most_acts) rfl
  g_busiest := He.glo_ok X G (c.t.d.fact 47)
  F_busiest := c.t.d.def_ 58 (d := d_busiest) rfl
  g__law_purse := He.glo_ok X G (c.t.d.fact 48)
  F__law_purse := c.t.d.def_ 59 (d := d__law_purse) rfl
  g__law_take := He.glo_ok X G (c.t.d.fact 49)
  F__law_take := c.t.d.def_ 60 (d := d__law_take) rfl
  g__law_alike := He.glo_ok X G (c.t.d.fact 50)
  F__law_alike := c.t.d.def_ 61 (d := d__law_alike) rfl
  g__law_refused := He.glo_ok X G (c.t.d.fact 51)
  F__law_refused := c.t.d.def_ 62 (d := d__law_refused) rfl
  g_law := He.glo_ok X G (c.t.d.fact 52)
  F_law := c.t.d.def_ 63 (d := d_law) rfl
  g_HouseError := He.glo_ok X G (c.t.d.fact 53)
  g_BadProgram := He.glo_ok X G (c.t.d.fact 54)
  g_BadSide := He.glo_ok X G (c.t.d.fact 55)
  g_BadSteps := He.glo_ok X G (c.t.d.fact 56)
  g_NoMachine := He.glo_ok X G (c.t.d.fact 57)
  g_Busy := He.glo_ok X G (c.t.d.fact 58)
  g_State := He.glo_ok X G (c.t.d.fact 59)
  g_House := He.glo_ok X G (c.t.d.fact 60)
  cl_State := He.cls_ok (c.t.d.fact 61)
  na_State_now := He.noat_ok (c.t.d.fact 62)
  na_State_next_number := He.noat_ok (c.t.d.fact 63)
  na_State_sets := He.noat_ok (c.t.d.fact 64)
  na_State_machines := He.noat_ok (c.t.d.fact 65)
  na_State_greatest := He.noat_ok (c.t.d.fact 66)
  me_State_twin := He.meth_ok (c.t.d.fact 67)
  me_State_members := He.meth_ok (c.t.d.fact 68)
  me_State_machine := He.meth_ok (c.t.d.fact 69)
  me_State_mention := He.meth_ok (c.t.d.fact 70)
  me_State_new_position := He.meth_ok (c.t.d.fact 71)
  me_State_put := He.meth_ok (c.t.d.fact 72)
  me_State_barred := He.meth_ok (c.t.d.fact 73)
  me_State_guards := He.meth_ok (c.t.d.fact 74)
  me_State_arrive := He.meth_ok (c.t.d.fact 75)
  me_State_withdraw := He.meth_ok (c.t.d.fact 76)
  me_State_next_act := He.meth_ok (c.t.d.fact 77)
  me_State_perform := He.meth_ok (c.t.d.fact 78)
  me_State_summary := He.meth_ok (c.t.d.fact 79)
  mk_State := He.mkr_ok (c.t.d.fact 80)
  cl_House := He.cls_ok (c.t.d.fact 81)
  na_House_standing := He.noat_ok (c.t.d.fact 82)
  na_House_deeds := He.noat_ok (c.t.d.fact 83)
  na_House_earlier := He.noat_ok (c.t.d.fact 84)
  na_House_is_busy := He.noat_ok (c.t.d.fact 85)
  me_House___eq__ := He.meth_ok (c.t.d.fact 86)
  me_House___len__ := He.meth_ok (c.t.d.fact 87)
  me_House___repr__ := He.meth_ok (c.t.d.fact 88)
  me_House_check_free := He.meth_ok (c.t.d.fact 89)
  me_House_present := He.meth_ok (c.t.d.fact 90)
  me_House_keep := He.meth_ok (c.t.d.fact 91)
  me_House_arrive := He.meth_ok (c.t.d.fact 92)
  me_House_withdraw := He.meth_ok (c.t.d.fact 93)
  me_House_advance := He.meth_ok (c.t.d.fact 94)
  me_House_settle := He.meth_ok (c.t.d.fact 95)
  me_House_advance_to := He.meth_ok (c.t.d.fact 96)
  me_House_perform_until := He.meth_ok (c.t.d.fact 97)
  me_House_next_act := He.meth_ok (c.t.d.fact 98)
  me_House_clock := He.meth_ok (c.t.d.fact 99)
  me_House_members := He.meth_ok (c.t.d.fact 100)
  me_House_guards := He.meth_ok (c.t.d.fact 101)
  me_House_numbers := He.meth_ok (c.t.d.fact 102)
  me_House_rank := He.meth_ok (c.t.d.fact 103)
  me_House_is_satisfied := He.meth_ok (c.t.d.fact 104)
  me_House_starts := He.meth_ok (c.t.d.fact 105)
  me_House_acts := He.meth_ok (c.t.d.fact 106)
  me_House_facts := He.meth_ok (c.t.d.fact 107)
  me_House_history := He.meth_ok (c.t.d.fact 108)
  me_House_undo := He.meth_ok (c.t.d.fact 109)
  me_House_twin := He.meth_ok (c.t.d.fact 110)
  mk_House := He.mkr_ok (c.t.d.fact 111)
  oe_House := kOwnE_ok (ex_at c.more 16 (b := (kOwnE K (He.ga K "House") (He.ma K (He.ga K "House") "__eq__"))) rfl)
  x_HouseError := kExc_ok (ex_at c.more 9 (b := (kExc K (He.ga K "HouseError") ve "ValueError.__new__")) rfl)
  x_BadProgram := kExc_ok (ex_at c.more 10 (b := (kExc K (He.ga K "BadProgram") ve "ValueError.__new__")) rfl)
  x_BadSide := kExc_ok (ex_at c.more 11 (b := (kExc K (He.ga K "BadSide") ve "ValueError.__new__")) rfl)
  x_BadSteps := kExc_ok (ex_at c.more 12 (b := (kExc K (He.ga K "BadSteps") ve "ValueError.__new__")) rfl)
  x_Busy := kExc_ok (ex_at c.more 13 (b := (kExc K (He.ga K "Busy") vre "RuntimeError.__new__")) rfl)
  ox_NoMachine := kOx_ok (ex_at c.more 14 (b := (kOx K (He.ga K "NoMachine") (He.ma K (He.ga K "NoMachine") "__init__") vle "LookupError.__new__" "number")) rfl)
  xi_NoMachine := ex_at c.more 15 (b := (kXt K "LookupError" "LookupError.__init__")) rfl
  u_HouseError_HouseError := kUnd_ok (ex_at c.more 17 (b := (kUnd K (He.ga K "HouseError") (He.ga K "HouseError") true)) rfl)
  u_HouseError_BadProgram := kUnd_ok (ex_at c.more 18 (b := (kUnd K (He.ga K "HouseError") (He.ga K "BadProgram") false)) rfl)
  u_HouseError_BadSide := kUnd_ok (ex_at c.more 19 (b := (kUnd K (He.ga K "HouseError") (He.ga K "BadSide") false)) rfl)
  u_HouseError_BadSteps := kUnd_ok (ex_at c.more 20 (b := (kUnd K (He.ga K "HouseError") (He.ga K "BadSteps") false)) rfl)
  u_HouseError_NoMachine := kUnd_ok (ex_at c.more 21 (b := (kUnd K (He.ga K "HouseError") (He.ga K "NoMachine") false)) rfl)
  u_HouseError_Busy := kUnd_ok (ex_at c.more 22 (b := (kUnd K (He.ga K "HouseError") (He.ga K "Busy") false)) rfl)
  u_BadProgram_HouseError := kUnd_ok (ex_at c.more 23 (b := (kUnd K (He.ga K "BadProgram") (He.ga K "HouseError") true)) rfl)
  u_BadProgram_BadProgram := kUnd_ok (ex_at c.more 24 (b := (kUnd K (He.ga K "BadProgram") (He.ga K "BadProgram") true)) rfl)
  u_BadProgram_BadSide := kUnd_ok (ex_at c.more 25 (b := (kUnd K (He.ga K "BadProgram") (He.ga K "BadSide") false)) rfl)
  u_BadProgram_BadSteps := kUnd_ok (ex_at c.more 26 (b := (kUnd K (He.ga K "BadProgram") (He.ga K "BadSteps") false)) rfl)
  u_BadProgram_NoMachine := kUnd_ok (ex_at c.more 27 (b := (kUnd K (He.ga K "BadProgram") (He.ga K "NoMachine") false)) rfl)
  u_BadProgram_Busy := kUnd_ok (ex_at c.more 28 (b := (kUnd K (He.ga K "BadProgram") (He.ga K "Busy") false)) rfl)
  u_BadSide_HouseError := kUnd_ok (ex_at c.more 29 (b := (kUnd K (He.ga K "BadSide") (He.ga K "HouseError") true)) rfl)
  u_BadSide_BadProgram := kUnd_ok (ex_at c.more 30 (b := (kUnd K (He.ga K "BadSide") (He.ga K "BadProgram") false)) rfl)
  u_BadSide_BadSide := kUnd_ok (ex_at c.more 31 (b := (kUnd K (He.ga K "BadSide") (He.ga K "BadSide") true)) rfl)
  u_BadSide_BadSteps := kUnd_ok (ex_at c.more 32 (b := (kUnd K (He.ga K "BadSide") (He.ga K "BadSteps") false)) rfl)
  u_BadSide_NoMachine := kUnd_ok (ex_at c.more 33 (b := (kUnd K (He.ga K "BadSide") (He.ga K "NoMachine") false)) rfl)
  u_BadSide_Busy := kUnd_ok (ex_at c.more 34 (b := (kUnd K (He.ga K "BadSide") (He.ga K "Busy") false)) rfl)
  u_BadSteps_HouseError := kUnd_ok (ex_at c.more 35 (b := (kUnd K (He.ga K "BadSteps") (He.ga K "HouseError") true)) rfl)
  u_BadSteps_BadProgram := kUnd_ok (ex_at c.more 36 (b := (kUnd K (He.ga K "BadSteps") (He.ga K "BadProgram") false)) rfl)
  u_BadSteps_BadSide := kUnd_ok (ex_at c.more 37 (b := (kUnd K (He.ga K "BadSteps") (He.ga K "BadSide") false)) rfl)
  u_BadSteps_BadSteps := kUnd_ok (ex_at c.more 38 (b := (kUnd K (He.ga K "BadSteps") (He.ga K "BadSteps") true)) rfl)
  u_BadSteps_NoMachine := kUnd_ok (ex_at c.more 39 (b := (kUnd K (He.ga K "BadSteps") (He.ga K "NoMachine") false)) rfl)
  u_BadSteps_Busy := kUnd_ok (ex_at c.more 40 (b := (kUnd K (He.ga K "BadSteps") (He.ga K "Busy") false)) rfl)
  u_NoMachine_HouseError := kUnd_ok (ex_at c.more 41 (b := (kUnd K (He.ga K "NoMachine") (He.ga K "HouseError") false)) rfl)
  u_NoMachine_BadProgram := kUnd_ok (ex_at c.more 42 (b := (kUnd K (He.ga K "NoMachine") (He.ga K "BadProgram") false)) rfl)
  u_NoMachine_BadSide := kUnd_ok (ex_at c.more 43 (b := (kUnd K (He.ga K "NoMachine") (He.ga K "BadSide") false)) rfl)
  u_NoMachine_BadSteps := kUnd_ok (ex_at c.more 44 (b := (kUnd K (He.ga K "NoMachine") (He.ga K "BadSteps") false)) rfl)
  u_NoMachine_NoMachine := kUnd_ok (ex_at c.more 45 (b := (kUnd K (He.ga K "NoMachine") (He.ga K "NoMachine") true)) rfl)
  u_NoMachine_Busy := kUnd_ok (ex_at c.more 46 (b := (kUnd K (He.ga K "NoMachine") (He.ga K "Busy") false)) rfl)
  u_Busy_HouseError := kUnd_ok (ex_at c.more 47 (b := (kUnd K (He.ga K "Busy") (He.ga K "HouseError") false)) rfl)
  u_Busy_BadProgram := kUnd_ok (ex_at c.more 48 (b := (kUnd K (He.ga K "Busy") (He.ga K "BadProgram") false)) rfl)
  u_Busy_BadSide := kUnd_ok (ex_at c.more 49 (b := (kUnd K (He.ga K "Busy") (He.ga K "BadSide") false)) rfl)
  u_Busy_BadSteps := kUnd_ok (ex_at c.more 50 (b := (kUnd K (He.ga K "Busy") (He.ga K "BadSteps") false)) rfl)
  u_Busy_NoMachine := kUnd_ok (ex_at c.more 51 (b := (kUnd K (He.ga K "Busy") (He.ga K "NoMachine") false)) rfl)
  u_Busy_Busy := kUnd_ok (ex_at c.more 52 (b := (kUnd K (He.ga K "Busy") (He.ga K "Busy") true)) rfl)
  r_HouseError_ValueError := of_decide_eq_true (ex_at c.more 53 (b := (decide (PySem.W.kitOne K (.ref (He.ga K "HouseError")) (.type "ValueError") = some true))) rfl)
  r_BadProgram_ValueError := of_decide_eq_true (ex_at c.more 54 (b := (decide (PySem.W.kitOne K (.ref (He.ga K "BadProgram")) (.type "ValueError") = some true))) rfl)
  r_BadSide_ValueError := of_decide_eq_true (ex_at c.more 55 (b := (decide (PySem.W.kitOne K (.ref (He.ga K "BadSide")) (.type "ValueError") = some true))) rfl)
  r_BadSteps_ValueError := of_decide_eq_true (ex_at c.more 56 (b := (decide (PySem.W.kitOne K (.ref (He.ga K "BadSteps")) (.type "ValueError") = some true))) rfl)
  r_NoMachine_ValueError := of_decide_eq_true (ex_at c.more 57 (b := (decide (PySem.W.kitOne K (.ref (He.ga K "NoMachine")) (.type "ValueError") = some false))) rfl)
  r_Busy_ValueError := of_decide_eq_true (ex_at c.more 58 (b := (decide (PySem.W.kitOne K (.ref (He.ga K "Busy")) (.type "ValueError") = some false))) rfl)
end Nt

namespace Nt
open PySem PySem.Spec PyProof.Rows L2 Evl
/-! ### texts: str of an int or a text; a comprehension with two fors; += of lists -/
def rStrA : List V → Hp → VK → Prop := fun xs H Q => (∃ i : Int, xs = [.int i] ∧ i.natAbs.log2 < 1920 ∧ Q (.str (toString i)) H) ∨ ∃ a, xs = [.str a] ∧ Q (.str a) H
theorem call_strA {X : Cx} : CallR X (.type "str") rStrA := by
  intro pins s σ H xs us Q I r h
  rcases h with h | h
  · exact call_str_int pins s σ H xs us Q I r h
  · exact SkE.call_str_str pins s σ H xs us Q I r h
theorem take_S {α : Type} {l : List α} {i : Nat} {x : α} (h : l[i]? = some x) : l.take (i + 1) = l.take i ++ [x] := by
  have hlt : i < l.length := by
    rcases Nat.lt_or_ge i l.length with q | q
    · exact q
    · rw [List.getElem?_eq_none q] at h; cases h
  rw [List.getElem?_eq_getElem hlt] at h
  cases h
  exact (List.take_append_getElem hlt).symm
theorem flatten_len {α : Type} : ∀ (l : List (List α)) (i : Nat), (l.take i).flatten.length ≤ l.flatten.length
  | [], i => by rw [List.take_nil]; exact Nat.le_refl _
  | x :: l, 0 => by rw [List.take_zero]; exact Nat.zero_le _
  | x :: l, i + 1 => by
    rw [List.take_succ_cons, List.flatten_cons, List.flatten_cons, List.length_append, List.length_append]
    have := flatten_len l i
    omega
section
variable {K : PySem.W.Frag} {σ : L2.St} {H : Hp} {tl ti : TE}
theorem el_lc2 {a : Addr} {xs : List V} {yss : List (List V)} {j k : Nat} {vs vs1 : List Nat} (h : Ev tl σ H (.ref a)) (hx : SqT K H a xs) (hl : yss.length = xs.length) (hz : yss.flatten.length ≤ 40000)
    (hw : ∀ x, wipe ((wipe σ vs).set j (some x)) vs = wipe σ vs) (hw1 : ∀ x y, wipe ((wipe ((wipe σ vs).set j (some x)) vs1).set k (some y)) vs1 = wipe ((wipe σ vs).set j (some x)) vs1) (hk : ∀ x y, ((wipe ((wipe σ vs).set j (some x)) vs1).set k (some y))[k]? = some (some y))
    (hi : ∀ (i : Nat) (x : V) (ys : List V) H1, Ex H H1 → xs[i]? = some x → yss[i]? = some ys → EvL ti ((wipe σ vs).set j (some x)) H1 ys) :
    EvL (tLc2 (iTup K tl) (gName j) tYes (iList K ti) (gName k) tYes (tVar k) vs vs1) σ H yss.flatten := fun H0 e Q q => h H0 e _ fun H1 e1 => ⟨a, rfl, ⟨xs, ex_t (e.trans e1) hx⟩, fun D hD => by
  have e01 := e.trans e1
  refine ⟨fun i m H' => m = xs.length - i ∧ i ≤ xs.length ∧ Ex H1 H' ∧ H' D = some (.lst (yss.take i).flatten), ⟨xs.length, by simp, Nat.zero_le _, Ex.new hD, by rw [List.take_zero]; exact upd_same⟩, ?_⟩
  rintro i m H' ⟨rfl, hi', p1, p2⟩
  have hx' := ex_t (e01.trans p1) hx
  by_cases hlt : i < xs.length
  · have hys : yss[i]? = some yss[i] := List.getElem?_eq_getElem (by rw [hl]; exact hlt)
    generalize yss[i] = ys at hys
    have htk := take_S hys
    have hfl : (yss.take (i + 1)).flatten = (yss.take i).flatten ++ ys := by rw [htk, List.flatten_append, List.flatten_singleton]
    refine .inr ⟨⟨xs, xs[i], hx', by simp [hlt]⟩, fun H2 => Ex H1 H2 ∧ H2 D = some (.lst (yss.take (i + 1)).flatten), fun H2 p => ⟨xs.length - (i + 1), by omega, rfl, hlt, p.1, p.2⟩, fun x H2 y => ?_⟩
    obtain ⟨e2, y⟩ := y
    subst e2
    have hxi := y xs hx'
    refine ⟨hw x, ?_⟩
    dsimp only [tYes]
    rw [if_pos rfl]
    refine hi i x ys H2 (e01.trans p1) hxi hys H2 (Ex.refl _) _ fun p H3 hp e3 hp3 => ?_
    refine ⟨p, rfl, ⟨ys, sq_of hp3⟩, ?_⟩
    have hne : D ≠ p := fun z => by rw [z] at p2; rw [hp] at p2; cases p2
    have hD3 := e3 _ _ p2
    refine ⟨fun j' m' H4 => m' = ys.length - j' ∧ j' ≤ ys.length ∧ Ex H1 H4 ∧ H4 p = some (.lst ys) ∧ H4 D = some (.lst ((yss.take i).flatten ++ ys.take j')), ⟨ys.length, by simp, Nat.zero_le _, p1.trans e3, hp3, by rw [List.take_zero, List.append_nil]; exact hD3⟩, ?_⟩
    rintro j' m' H4 ⟨rfl, hj, q1, q2, q3⟩
    by_cases hjl : j' < ys.length
    · refine .inr ⟨⟨ys, ys[j'], sq_of q2, by simp [hjl]⟩, fun H5 => Ex H1 H5 ∧ H5 p = some (.lst ys) ∧ H5 D = some (.lst ((yss.take i).flatten ++ ys.take (j' + 1))), fun H5 r => ⟨ys.length - (j' + 1), by omega, rfl, hjl, r.1, r.2.1, r.2.2⟩, fun z H5 yl => ?_⟩
      obtain ⟨e5, yl⟩ := yl
      subst e5
      have hz' := yl ys (sq_of q2)
      refine ⟨hw1 x z, ?_⟩
      dsimp only [tYes]
      rw [if_pos rfl]
      refine ⟨z, hk x z, (yss.take i).flatten ++ ys.take j', q3, sz_lt ?_, ?_, ?_, ?_⟩
      · have h1 := flatten_len yss (i + 1)
        rw [hfl, List.length_append] at h1
        rw [List.length_append, List.length_take]
        omega
      · exact fun b o hb => by
          have hbD : b ≠ D := ne_of_none hb hD
          rw [upd_ne hbD]; exact q1 b o hb
      · rw [upd_ne hne.symm]; exact q2
      · rw [take_S hz', ← List.append_assoc]; exact upd_same
    · have ej : j' = ys.length := by omega
      subst ej
      refine .inl ⟨⟨ys, sq_of q2, Nat.le_refl _⟩, q1, ?_⟩
      rw [hfl]
      rw [List.take_length] at q3
      exact q3
  · have ei : i = xs.length := by omega
    subst ei
    refine .inl ⟨⟨xs, hx', Nat.le_refl _⟩, ?_⟩
    rw [← hl, List.take_length] at p2
    exact q D H' (fresh_back e1 hD) (e1.trans p1) p2⟩
end
end Nt

namespace Nt
open PySem PySem.Spec PyProof.Rows L2 Evl
/-! ### a plain store: what the heap holds, by numbers -/
inductive Vl where
  | non | bl (b : Bool) | int (i : Int) | str (s : Str) | tup (xs : List Vl) | ktp (xs : List Vl) | ref (i : Nat) | fn (k : Nat) | ty (n : String) | scr (ns : List Int)
inductive Ob where
  | lst (xs : List Vl) | dk (kvs : List (Key × Vl)) | dt (kvs : List (List Key × Vl)) | ins (c : Nat) (fs : List (Nat × Vl)) | xd (fs : List (Nat × Vl)) | fz (kvs : List (Key × Vl))
abbrev Sto := List Ob
abbrev En := List (Option Vl)
inductive Out (α : Type) where
  | ok (a : α) (S : Sto)
  | err (c : Nat) (x : Option Nat) (S : Sto)
  | bad
def Out.bind {α β : Type} (o : Out α) (f : α → Sto → Out β) : Out β := match o with
  | .ok a S => f a S
  | .err c x S => .err c x S
  | .bad => .bad
@[simp] theorem Out.bind_ok {α β : Type} {a : α} {S : Sto} {f : α → Sto → Out β} : (Out.ok a S).bind f = f a S := rfl
@[simp] theorem Out.bind_err {α β : Type} {c : Nat} {x : Option Nat} {S : Sto} {f : α → Sto → Out β} : (Out.err c x S : Out α).bind f = .err c x S := rfl
@[simp] theorem Out.bind_bad {α β : Type} {f : α → Sto → Out β} : (Out.bad : Out α).bind f = .bad := rfl
/-- the names that are told by numbers: what stands in a module, a class's fields -/
structure Nms where
  g : Nat → Str
  f : Nat → Str
  fi : ∀ i j, f i = f j → i = j
  xh : Option (Nat × Addr)
  xj : Option (Nat × Addr) := none
/-- the slot does not hold a caught exception -/
def Nms.fr (N : Nms) (i : Nat) : Prop := ∀ a, N.xh ≠ some (i, a)
theorem Nms.fr0 {N : Nms} {i : Nat} (h : N.xh = none) : N.fr i := fun a e => by rw [h] at e; cases e
/-- the same names, where the slot i holds the exception at a -/
abbrev Nms.hld (N : Nms) (i : Nat) (a : Addr) : Nms := { N with xh := some (i, a), xj := none }
/-- .. with its own dict -/
abbrev Nms.hldX (N : Nms) (i : Nat) (a : Addr) (x : Option (Nat × Addr)) : Nms := { N with xh := some (i, a), xj := x }
theorem Nms.frh {N : Nms} {i j : Nat} {a : Addr} (h : (i == j) = false) : (N.hld i a).fr j := fun b e => by
  injection e with e
  injection e with e _
  rw [e] at h
  simp at h
/-- the script's list -/
def SqF (K : PySem.W.Frag) (H : Hp) (a : Addr) (xs : List V) : Prop := (∃ o, H a = some (.frz o (.lst xs))) ∨
  ∃ (o : Obj) (its : Array Value) (n : Nat), K.lookup a = some o ∧ o.cls = .type "list" ∧ o.dict = none ∧ o.data = .seq its n ∧ its.size ≤ sizeLine ∧ Vals xs its.toList
theorem SqF.l {K : PySem.W.Frag} {H : Hp} {a : Addr} {xs : List V} (h : SqF K H a xs) : SqL K H a xs := by
  rcases h with ⟨o, h⟩ | h
  · exact .inl (.inr ⟨o, h⟩)
  · exact .inr h
mutual
inductive Vr (N : Nms) (K : PySem.W.Frag) (m : List Addr) (H : Hp) : Vl → V → Prop
  | non : Vr N K m H .non .non
  | bl (b : Bool) : Vr N K m H (.bl b) (.bl b)
  | int (i : Int) : Vr N K m H (.int i) (.int i)
  | str (s : Str) : Vr N K m H (.str s) (.str s)
  | ty (n : String) : Vr N K m H (.ty n) (.ty n)
  | tup {a : Addr} {ys : List V} {xs : List Vl} : H a = some (.tup ys) → Vrs N K m H xs ys → Vr N K m H (.tup xs) (.ref a)
  | ktp {a : Addr} {ys : List V} {xs : List Vl} : SqT K H a ys → Vrs N K m H xs ys → Vr N K m H (.ktp xs) (.ref a)
  | ref {i : Nat} {a : Addr} : m[i]? = some a → Vr N K m H (.ref i) (.ref a)
  | fn (k : Nat) : Vr N K m H (.fn k) (.ref (He.ga K (N.g k)))
  | scr {a : Addr} {ns : List Int} : SqF K H a (ns.map V.int) → Vr N K m H (.scr ns) (.ref a)
inductive Vrs (N : Nms) (K : PySem.W.Frag) (m : List Addr) (H : Hp) : List Vl → List V → Prop
  | nil : Vrs N K m H [] []
  | cons {x : Vl} {u : V} {xs : List Vl} {us : List V} : Vr N K m H x u → Vrs N K m H xs us → Vrs N K m H (x :: xs) (u :: us)
end
structure Ext (K : PySem.W.Frag) (m : List Addr) (H : Hp) (m' : List Addr) (H' : Hp) : Prop where
  pre : ∀ (i : Nat) (a : Addr), m[i]? = some a → m'[i]? = some a
  tup : ∀ a xs, H a = some (.tup xs) → H' a = some (.tup xs)
  ktp : ∀ a xs, SqT K H a xs → SqT K H' a xs
  scr : ∀ a xs, SqF K H a xs → SqF K H' a xs
  frz : ∀ a o u, H a = some (.frz o u) → H' a = some (.frz o u)
section
variable {N : Nms} {K : PySem.W.Frag} {m m' m1 m2 : List Addr} {H H' H1 H2 : Hp}
theorem Ext.refl : Ext K m H m H := ⟨fun _ _ h => h, fun _ _ h => h, fun _ _ h => h, fun _ _ h => h, fun _ _ _ h => h⟩
theorem Ext.trans (a : Ext K m H m1 H1) (b : Ext K m1 H1 m2 H2) : Ext K m H m2 H2 := ⟨fun i x h => b.pre i x (a.pre i x h), fun i x h => b.tup i x (a.tup i x h), fun i x h => b.ktp i x (a.ktp i x h), fun i x h => b.scr i x (a.scr i x h), fun i o u h => b.frz i o u (a.frz i o u h)⟩
mutual
theorem Vr.mono (e : Ext K m H m' H') : ∀ {x : Vl} {u : V}, Vr N K m H x u → Vr N K m' H' x u
  | _, _, .non => .non
  | _, _, .bl b => .bl b
  | _, _, .int b => .int b
  | _, _, .str b => .str b
  | _, _, .ty b => .ty b
  | _, _, .tup h r => .tup (e.tup _ _ h) (Vrs.mono e r)
  | _, _, .ktp h r => .ktp (e.ktp _ _ h) (Vrs.mono e r)
  | _, _, .ref h => .ref (e.pre _ _ h)
  | _, _, .fn k => .fn k
  | _, _, .scr h => .scr (e.scr _ _ h)
theorem Vrs.mono (e : Ext K m H m' H') : ∀ {x : List Vl} {u : List V}, Vrs N K m H x u → Vrs N K m' H' x u
  | _, _, .nil => .nil
  | _, _, .cons h r => .cons (Vr.mono e h) (Vrs.mono e r)
end
theorem Vrs.len : ∀ {x : List Vl} {u : List V}, Vrs N K m H x u → x.length = u.length
  | _, _, .nil => rfl
  | _, _, .cons _ r => congrArg Nat.succ (Vrs.len r)
theorem Vrs.get : ∀ {x : List Vl} {u : List V} {i : Nat} {v : Vl}, Vrs N K m H x u → x[i]? = some v → ∃ w, u[i]? = some w ∧ Vr N K m H v w
  | _, _, 0, _, .cons h _, e => by cases e; exact ⟨_, rfl, h⟩
  | _, _, i + 1, _, .cons _ r, e => Vrs.get (i := i) r e
theorem Vrs.get' : ∀ {x : List Vl} {u : List V} {i : Nat} {w : V}, Vrs N K m H x u → u[i]? = some w → ∃ v, x[i]? = some v ∧ Vr N K m H v w
  | _, _, 0, _, .cons h _, e => by cases e; exact ⟨_, rfl, h⟩
  | _, _, i + 1, _, .cons _ r, e => Vrs.get' (i := i) r e
theorem Vrs.append : ∀ {x y : List Vl} {u w : List V}, Vrs N K m H x u → Vrs N K m H y w → Vrs N K m H (x ++ y) (u ++ w)
  | _, _, _, _, .nil, h => h
  | _, _, _, _, .cons h r, k => .cons h (Vrs.append r k)
theorem Vrs.set : ∀ {x : List Vl} {u : List V} (i : Nat) {v : Vl} {w : V}, Vrs N K m H x u → Vr N K m H v w → Vrs N K m H (x.set i v) (u.set i w)
  | _, _, _, _, _, .nil, _ => .nil
  | _, _, 0, _, _, .cons _ r, k => .cons k r
  | _, _, i + 1, _, _, .cons h r, k => .cons h (Vrs.set i r k)
theorem Vrs.take : ∀ {x : List Vl} {u : List V} (n : Nat), Vrs N K m H x u → Vrs N K m H (x.take n) (u.take n)
  | _, _, 0, _ => .nil
  | _, _, _ + 1, .nil => .nil
  | _, _, n + 1, .cons h r => .cons h (Vrs.take n r)
theorem Vrs.drop : ∀ {x : List Vl} {u : List V} (n : Nat), Vrs N K m H x u → Vrs N K m H (x.drop n) (u.drop n)
  | _, _, 0, h => h
  | _, _, _ + 1, .nil => .nil
  | _, _, n + 1, .cons h r => Vrs.drop n r
theorem Vrs.reverse : ∀ {x : List Vl} {u : List V}, Vrs N K m H x u → Vrs N K m H x.reverse u.reverse
  | _, _, .nil => .nil
  | _, _, .cons h r => by
    rw [List.reverse_cons, List.reverse_cons]
    exact Vrs.append (Vrs.reverse r) (.cons h .nil)
theorem Vrs.ints : ∀ {u : List V} {ns : List Int}, Vrs N K m H (ns.map Vl.int) u → u = ns.map V.int
  | _, [], .nil => rfl
  | _, n :: ns, .cons h r => by
    cases h
    rw [Vrs.ints r]
    rfl
theorem Vrs.ofInts : ∀ (ns : List Int), Vrs N K m H (ns.map Vl.int) (ns.map V.int)
  | [] => .nil
  | n :: ns => .cons (.int n) (Vrs.ofInts ns)
end
/-- pairs of a key and a value -/
inductive KR (N : Nms) (K : PySem.W.Frag) (m : List Addr) (H : Hp) {κ : Type} : List (κ × Vl) → List (κ × V) → Prop
  | nil : KR N K m H [] []
  | cons {k : κ} {x : Vl} {u : V} {xs : List (κ × Vl)} {us : List (κ × V)} : Vr N K m H x u → KR N K m H xs us → KR N K m H ((k, x) :: xs) ((k, u) :: us)
/-- fields -/
inductive FR (N : Nms) (K : PySem.W.Frag) (m : List Addr) (H : Hp) : List (Nat × Vl) → List (Str × V) → Prop
  | nil : FR N K m H [] []
  | cons {k : Nat} {x : Vl} {u : V} {xs : List (Nat × Vl)} {us : List (Str × V)} : Vr N K m H x u → FR N K m H xs us → FR N K m H ((k, x) :: xs) ((N.f k, u) :: us)
inductive ObR (N : Nms) (K : PySem.W.Frag) (m : List Addr) (H : Hp) : Ob → HO → Prop
  | lst {xs : List Vl} {ys : List V} : Vrs N K m H xs ys → ObR N K m H (.lst xs) (.lst ys)
  | dk {xs : List (Key × Vl)} {ys : List (Key × V)} : KR N K m H xs ys → ObR N K m H (.dk xs) (.dK ys)
  | dt {xs : List (List Key × Vl)} {ys : List (List Key × V)} : KR N K m H xs ys → ObR N K m H (.dt xs) (.dT ys)
  | ins {c : Nat} {dx : Addr} {fs : List (Nat × Vl)} {gs : List (Str × V)} : FR N K m H fs gs → ObR N K m H (.ins c fs) (.ins (He.ga K (N.g c)) dx gs)
  | xd {fs : List (Nat × Vl)} {gs : List (Str × V)} : FR N K m H fs gs → ObR N K m H (.xd fs) (.xd gs)
  | fz {od : Obj} {xs : List (Key × Vl)} {ys : List (Key × V)} : KR N K m H xs ys → ObR N K m H (.fz xs) (.frz od (.dK ys))
structure SR (N : Nms) (K : PySem.W.Frag) (m : List Addr) (S : Sto) (H : Hp) : Prop where
  len : m.length = S.length
  inj : ∀ (i j : Nat) (a : Addr), m[i]? = some a → m[j]? = some a → i = j
  ob : ∀ (i : Nat) (o : Ob), S[i]? = some o → ∃ a u, m[i]? = some a ∧ H a = some u ∧ ObR N K m H o u
section
variable {N : Nms} {K : PySem.W.Frag} {m m' m1 m2 : List Addr} {S : Sto} {H H' H1 H2 : Hp}
theorem KR.mono {κ : Type} (e : Ext K m H m' H') : ∀ {x : List (κ × Vl)} {u : List (κ × V)}, KR N K m H x u → KR N K m' H' x u
  | _, _, .nil => .nil
  | _, _, .cons h r => .cons (h.mono e) (KR.mono e r)
theorem KR.len {κ : Type} : ∀ {x : List (κ × Vl)} {u : List (κ × V)}, KR N K m H x u → x.length = u.length
  | _, _, .nil => rfl
  | _, _, .cons _ r => congrArg Nat.succ (KR.len r)
theorem FR.mono (e : Ext K m H m' H') : ∀ {x : List (Nat × Vl)} {u : List (Str × V)}, FR N K m H x u → FR N K m' H' x u
  | _, _, .nil => .nil
  | _, _, .cons h r => .cons (h.mono e) (FR.mono e r)
theorem FR.len : ∀ {x : List (Nat × Vl)} {u : List (Str × V)}, FR N K m H x u → x.length = u.length
  | _, _, .nil => rfl
  | _, _, .cons _ r => congrArg Nat.succ (FR.len r)
theorem ObR.mono {o : Ob} {u : HO} (e : Ext K m H m' H') : ObR N K m H o u → ObR N K m' H' o u
  | .lst h => .lst (h.mono e)
  | .dk h => .dk (h.mono e)
  | .dt h => .dt (h.mono e)
  | .ins h => .ins (h.mono e)
  | .xd h => .xd (h.mono e)
  | .fz h => .fz (h.mono e)
/-- what may be written to: no tuple, nothing locked -/
def Plain : HO → Prop
  | .tup _ => False
  | .frz _ _ => False
  | _ => True
theorem sqT_upd {a b : Addr} {u v : HO} {xs : List V} (hb : H b = some u) (hp : Plain u) (h : SqT K H a xs) : SqT K (upd H b v) a xs := by
  rcases h with (h | ⟨o, h⟩) | h
  · exact .inl (.inl (by rw [upd_ne (fun q => by rw [q, hb] at h; cases h; exact hp)]; exact h))
  · exact .inl (.inr ⟨o, by rw [upd_ne (fun q => by rw [q, hb] at h; cases h; exact hp)]; exact h⟩)
  · exact .inr h
theorem sqF_upd {a b : Addr} {u v : HO} {xs : List V} (hb : H b = some u) (hp : Plain u) (h : SqF K H a xs) : SqF K (upd H b v) a xs := by
  rcases h with ⟨o, h⟩ | h
  · exact .inl ⟨o, by rw [upd_ne (fun q => by rw [q, hb] at h; cases h; exact hp)]; exact h⟩
  · exact .inr h
theorem Ext.upd {b : Addr} {u v : HO} (hb : H b = some u) (hp : Plain u) : Ext K m H m (L2.upd H b v) := ⟨fun _ _ h => h, fun a xs h => by rw [upd_ne (fun q => by rw [q, hb] at h; cases h; exact hp)]; exact h, fun _ _ h => sqT_upd hb hp h, fun _ _ h => sqF_upd hb hp h, fun a o w h => by rw [upd_ne (fun q => by rw [q, hb] at h; cases h; exact hp)]; exact h⟩
theorem Ext.same (e : Same H H') : Ext K m H m H' := ⟨fun _ _ h => h, fun _ _ h => e _ _ h, fun _ _ h => Evl.ex_t e h, fun a xs h => by
  rcases h with ⟨o, h⟩ | h
  · exact .inl ⟨o, e _ _ h⟩
  · exact .inr h, fun _ _ _ h => e _ _ h⟩
theorem Ext.app {p : Addr} (e : Same H H') : Ext K m H (m ++ [p]) H' := ⟨fun i a h => by
  have hi : i < m.length := by
    rcases Nat.lt_or_ge i m.length with q | q
    · exact q
    · rw [List.getElem?_eq_none q] at h; cases h
  rw [List.getElem?_append_left hi]; exact h, (Ext.same (K := K) (m := m) e).tup, (Ext.same (m := m) e).ktp, (Ext.same (m := m) e).scr, fun _ _ _ h => e _ _ h⟩
theorem SR.same (s : SR N K m S H) (e : Same H H') : SR N K m S H' := ⟨s.len, s.inj, fun i o h => by
  obtain ⟨a, u, h1, h2, h3⟩ := s.ob i o h
  exact ⟨a, u, h1, e _ _ h2, h3.mono (Ext.same e)⟩⟩
theorem SR.lt (s : SR N K m S H) {i : Nat} {a : Addr} (h : m[i]? = some a) : i < S.length := by
  rw [← s.len]
  rcases Nat.lt_or_ge i m.length with q | q
  · exact q
  · rw [List.getElem?_eq_none q] at h; cases h
theorem SR.at_ (s : SR N K m S H) {i : Nat} {a : Addr} {o : Ob} (h : m[i]? = some a) (ho : S[i]? = some o) : ∃ u, H a = some u ∧ ObR N K m H o u := by
  obtain ⟨a', u, h1, h2, h3⟩ := s.ob i o ho
  rw [h] at h1
  cases h1
  exact ⟨u, h2, h3⟩
theorem SR.set (s : SR N K m S H) {i : Nat} {a : Addr} {u v : HO} {o : Ob} (h : m[i]? = some a) (hu : H a = some u) (hp : Plain u) (ho : ObR N K m H o v) : SR N K m (S.set i o) (upd H a v) := by
  have e : Ext K m H m (upd H a v) := Ext.upd hu hp
  refine ⟨by rw [List.length_set]; exact s.len, s.inj, fun j p hj => ?_⟩
  rw [List.getElem?_set] at hj
  split at hj
  · rename_i q
    split at hj
    · cases hj
      subst q
      exact ⟨a, v, h, upd_same, ho.mono e⟩
    · cases hj
  · rename_i q
    obtain ⟨b, u', h1, h2, h3⟩ := s.ob j p hj
    have hn : b ≠ a := fun z => q (s.inj i j a h (z ▸ h1))
    exact ⟨b, u', h1, by rw [upd_ne hn]; exact h2, h3.mono e⟩
theorem SR.new (s : SR N K m S H) {p : Addr} {o : Ob} {v : HO} (hS : Same H H') (hp : H p = none) (hp' : H' p = some v) (ho : ObR N K m H o v) : SR N K (m ++ [p]) (S ++ [o]) H' := by
  have e : Ext K m H (m ++ [p]) H' := Ext.app hS
  have hlen : (m ++ [p]).length = m.length + 1 := by rw [List.length_append]; rfl
  have key : ∀ i a, (m ++ [p])[i]? = some a → m[i]? = some a ∨ (i = m.length ∧ a = p) := fun i a h => by
    rcases Nat.lt_or_ge i m.length with q | q
    · rw [List.getElem?_append_left q] at h; exact .inl h
    · rw [List.getElem?_append_right q] at h
      rcases Nat.eq_or_lt_of_le q with z | z
      · rw [← z, Nat.sub_self] at h
        cases h
        exact .inr ⟨z.symm, rfl⟩
      · rw [List.getElem?_eq_none (by show 1 ≤ _; omega)] at h
        cases h
  have no : ∀ i, m[i]? ≠ some p := fun i h => by
    have hl : i < S.length := by
      rw [← s.len]
      rcases Nat.lt_or_ge i m.length with q | q
      · exact q
      · rw [List.getElem?_eq_none q] at h; cases h
    obtain ⟨a, u, h1, h2, _⟩ := s.ob i _ (List.getElem?_eq_getElem hl)
    rw [h] at h1
    cases h1
    rw [hp] at h2
    cases h2
  refine ⟨by rw [hlen, List.length_append, s.len]; rfl, fun i j a h1 h2 => ?_, fun i q h => ?_⟩
  · rcases key i a h1 with q1 | ⟨q1, e1⟩ <;> rcases key j a h2 with q2 | ⟨q2, e2⟩
    · exact s.inj i j a q1 q2
    · rw [e2] at q1; exact absurd q1 (no i)
    · rw [e1] at q2; exact absurd q2 (no j)
    · omega
  · rcases Nat.lt_or_ge i S.length with z | z
    · rw [List.getElem?_append_left z] at h
      obtain ⟨a, u, h1, h2, h3⟩ := s.ob i q h
      exact ⟨a, u, e.pre _ _ h1, hS _ _ h2, h3.mono e⟩
    · rw [List.getElem?_append_right z] at h
      rcases Nat.eq_or_lt_of_le z with y | y
      · rw [← y, Nat.sub_self] at h
        cases h
        refine ⟨p, v, ?_, hp', ho.mono e⟩
        rw [List.getElem?_append_right (by rw [s.len]; omega), s.len, ← y, Nat.sub_self]
        rfl
      · rw [List.getElem?_eq_none (by show 1 ≤ _; omega)] at h
        cases h
theorem SR.ref_new (s : SR N K m S H) {p : Addr} : Vr N K (m ++ [p]) H' (.ref S.length) (.ref p) := .ref (by
  rw [List.getElem?_append_right (by rw [s.len]; omega), s.len, Nat.sub_self]
  rfl)
end
/-! ### the slots -/
structure EnR (N : Nms) (K : PySem.W.Frag) (m : List Addr) (H : Hp) (env : En) (σ : L2.St) : Prop where
  len : env.length = σ.length
  at_ : ∀ (i : Nat) (v : Vl), env[i]? = some (some v) → ∃ u, σ[i]? = some (some u) ∧ Vr N K m H v u
  hd : ∀ (i : Nat) (a : Addr), N.xh = some (i, a) → σ[i]? = some (some (.ref a))
  hj : ∀ (i : Nat) (a : Addr) (j : Nat) (d : Addr), N.xh = some (i, a) → N.xj = some (j, d) → m[j]? = some d
section
variable {N : Nms} {K : PySem.W.Frag} {m m' m1 m2 : List Addr} {S : Sto} {H H' H1 H2 : Hp} {env : En} {σ : L2.St}
theorem EnR.mono (h : EnR N K m H env σ) (e : Ext K m H m' H') : EnR N K m' H' env σ := ⟨h.len, fun i v q => by
  obtain ⟨u, h1, h2⟩ := h.at_ i v q
  exact ⟨u, h1, h2.mono e⟩, h.hd, fun i a j d q r => e.pre _ _ (h.hj i a j d q r)⟩
theorem EnR.set (h : EnR N K m H env σ) {i : Nat} {v : Vl} {u : V} (hf : N.fr i) (r : Vr N K m H v u) : EnR N K m H (env.set i (some v)) (σ.set i (some u)) := by
  refine ⟨by rw [List.length_set, List.length_set]; exact h.len, fun j w q => ?_, fun j a e => by
    rw [List.getElem?_set_ne (by intro z; subst z; exact hf a e)]
    exact h.hd j a e, h.hj⟩
  rw [List.getElem?_set] at q
  rw [List.getElem?_set]
  split at q
  · rename_i z
    split at q
    · rename_i y
      cases q
      rw [if_pos z, if_pos (by rw [← h.len]; exact y)]
      exact ⟨u, rfl, r⟩
    · cases q
  · rename_i z
    rw [if_neg z]
    exact h.at_ j w q
end
/-! ### what a reading does, told by the store -/
/-- how an exception's own dict is told -/
def XD (m : List Addr) : Option Nat → Option Addr → Prop
  | none, none => True
  | some i, some a => m[i]? = some a
  | _, _ => False
def Post {α β : Type} (N : Nms) (K : PySem.W.Frag) (R : List Addr → Hp → α → β → Prop) (m : List Addr) (H : Hp) (Q : β → Hp → Prop) (E : XK) : Out α → Prop
  | .ok v S' => ∀ m' H' u, Ext K m H m' H' → SR N K m' S' H' → R m' H' v u → Q u H'
  | .err c x S' => ∀ m' H' d, Ext K m H m' H' → SR N K m' S' H' → XD m' x d → E (.ref (He.ga K (N.g c))) d H'
  | .bad => False
def Sim {α β : Type} (N : Nms) (K : PySem.W.Frag) (R : List Addr → Hp → α → β → Prop) (W : L2.St → XK) (t : L2.St → Hp → (β → Hp → Prop) → Prop) (f : En → Sto → Out α) : Prop :=
  ∀ m S H env σ Q, SR N K m S H → EnR N K m H env σ → Post N K R m H Q (W σ) (f env S) → t σ H Q
abbrev RvB (_ : List Addr) (_ : Hp) (a b : Bool) : Prop := a = b
abbrev RvO (_ : List Addr) (_ : Hp) (a b : Option Int) : Prop := a = b
section
variable {α β γ δ : Type} {N : Nms} {K : PySem.W.Frag} {R : List Addr → Hp → α → β → Prop} {R' : List Addr → Hp → γ → δ → Prop} {m m1 : List Addr} {H H1 : Hp} {Q : β → Hp → Prop} {Q' : δ → Hp → Prop} {E : XK} {W : L2.St → XK}
theorem Post.mono {o : Out α} (e : Ext K m H m1 H1) (h : Post N K R m H Q E o) : Post N K R m1 H1 Q E o := by
  cases o with
  | ok v S => exact fun m' H' u e' => h m' H' u (e.trans e')
  | err c x S => exact fun m' H' u e' => h m' H' u (e.trans e')
  | bad => exact h
theorem Post.ok {v : α} {u : β} {S : Sto} (h : Post N K R m H Q E (.ok v S)) (s : SR N K m S H) (r : R m H v u) : Q u H := h m H u Ext.refl s r
theorem Post.to {v : α} {u : β} {S : Sto} (h : Post N K R m H Q E (.ok v S)) (e : Ext K m H m1 H1) (s : SR N K m1 S H1) (r : R m1 H1 v u) : Q u H1 := h m1 H1 u e s r
theorem Sim.step {t : L2.St → Hp → (β → Hp → Prop) → Prop} {f : En → Sto → Out α} {g : α → Sto → Out γ} {S : Sto} {env : En} {σ : L2.St} (h : Sim N K R W t f) (s : SR N K m S H) (er : EnR N K m H env σ) (hp : Post N K R' m H Q' (W σ) ((f env S).bind g))
    (k : ∀ a S1 m1 H1 u, Ext K m H m1 H1 → SR N K m1 S1 H1 → R m1 H1 a u → EnR N K m1 H1 env σ → Post N K R' m1 H1 Q' (W σ) (g a S1) → Q u H1) : t σ H Q := by
  refine h m S H env σ Q s er ?_
  cases q : f env S with
  | ok v S1 =>
    rw [q] at hp
    exact fun m' H' u e s' r => k v S1 m' H' u e s' r (er.mono e) (Post.mono e hp)
  | err c x S1 =>
    rw [q] at hp
    exact hp
  | bad =>
    rw [q] at hp
    exact hp
end
end Nt

namespace Nt
open PySem PySem.Spec PyProof.Rows L2 Evl
/-! ### expressions -/
abbrev XE' := En → Sto → Out Vl
abbrev XA := En → Sto → Out (List Vl)
abbrev XT := En → Sto → Out Bool
abbrev XO := En → Sto → Out (Option Int)
structure SE (N : Nms) (X : Cx) (W : L2.St → XK) (e : Expr) (f : XE') : Prop where
  ex : ∃ t, PE X e t ∧ Sim N X.K (Vr N X.K) W t f
structure SA (N : Nms) (X : Cx) (W : L2.St → XK) (e : List Expr) (f : XA) : Prop where
  ex : ∃ t, PA X e t ∧ Sim N X.K (Vrs N X.K) W t f
structure ST (N : Nms) (X : Cx) (W : L2.St → XK) (e : Expr) (f : XT) : Prop where
  ex : ∃ t, PT X e t ∧ Sim N X.K RvB W t f
structure SW (N : Nms) (X : Cx) (W : L2.St → XK) (e : Expr) (f : XT) : Prop where
  ex : ∃ t, PW X e t ∧ Sim N X.K RvB W t f
structure SO (N : Nms) (X : Cx) (W : L2.St → XK) (e : Option Expr) (f : XO) : Prop where
  ex : ∃ t, PO X e t ∧ Sim N X.K RvO W t f
/-- an operation by values -/
def OpS (N : Nms) (K : PySem.W.Frag) (r : R2) (g : Vl → Vl → Sto → Out Vl) : Prop := ∀ m S H x y u w Q E, SR N K m S H → Vr N K m H x u → Vr N K m H y w → Post N K (Vr N K) m H Q E (g x y S) → r u w H Q
structure OpM (N : Nms) (X : Cx) (f : Value → Value → Sem Value) (g : Vl → Vl → Sto → Out Vl) : Prop where
  ex : ∃ r, OpR X f r ∧ OpS N X.K r g
def UnS (N : Nms) (K : PySem.W.Frag) (r : V → Hp → VK → Prop) (g : Vl → Sto → Out Vl) : Prop := ∀ m S H x u Q E, SR N K m S H → Vr N K m H x u → Post N K (Vr N K) m H Q E (g x S) → r u H Q
def CallS (N : Nms) (K : PySem.W.Frag) (r : List V → Hp → VK → Prop) (g : List Vl → Sto → Out Vl) : Prop := ∀ m S H xs us Q E, SR N K m S H → Vrs N K m H xs us → Post N K (Vr N K) m H Q E (g xs S) → r us H Q
structure CallM (N : Nms) (X : Cx) (f : Value) (g : List Vl → Sto → Out Vl) : Prop where
  ex : ∃ r, CallR X f r ∧ CallS N X.K r g
def rOr (r r' : R2) : R2 := fun x y H Q => r x y H Q ∨ r' x y H Q
theorem OpR.or {X : Cx} {f : Value → Value → Sem Value} {r r' : R2} (h : OpR X f r) (h' : OpR X f r') : OpR X f (rOr r r') := fun pins s σ H x y v u Q I rx ry q => by
  rcases q with q | q
  · exact h pins s σ H x y v u Q I rx ry q
  · exact h' pins s σ H x y v u Q I rx ry q
def cOr (r r' : List V → Hp → VK → Prop) : List V → Hp → VK → Prop := fun x H Q => r x H Q ∨ r' x H Q
theorem CallR.or {X : Cx} {f : Value} {r r' : List V → Hp → VK → Prop} (h : CallR X f r) (h' : CallR X f r') : CallR X f (cOr r r') := fun pins s σ H x v Q I rx q => by
  rcases q with q | q
  · exact h pins s σ H x v Q I rx q
  · exact h' pins s σ H x v Q I rx q
section
variable {N : Nms} {K : PySem.W.Frag} {m : List Addr} {S : Sto} {H : Hp} {u : V}
theorem Vr.int' {i : Int} (h : Vr N K m H (.int i) u) : u = .int i := by cases h; rfl
theorem Vr.str' {i : Str} (h : Vr N K m H (.str i) u) : u = .str i := by cases h; rfl
theorem Vr.bl' {i : Bool} (h : Vr N K m H (.bl i) u) : u = .bl i := by cases h; rfl
theorem Vr.non' (h : Vr N K m H .non u) : u = .non := by cases h; rfl
theorem Vr.tup' {xs : List Vl} (h : Vr N K m H (.tup xs) u) : ∃ a ys, u = .ref a ∧ H a = some (.tup ys) ∧ Vrs N K m H xs ys := by cases h with | tup h1 h2 => exact ⟨_, _, rfl, h1, h2⟩
def asTup : Vl → Option (List Vl)
  | .tup xs => some xs
  | .ktp xs => some xs
  | _ => none
theorem Vr.asT {x : Vl} {xs : List Vl} (h : Vr N K m H x u) (e : asTup x = some xs) : ∃ a ys, u = .ref a ∧ SqT K H a ys ∧ Vrs N K m H xs ys := by
  cases h with
  | tup h1 h2 => cases e; exact ⟨_, _, rfl, st_of h1, h2⟩
  | ktp h1 h2 => cases e; exact ⟨_, _, rfl, h1, h2⟩
  | _ => cases e
theorem Vr.ref' {i : Nat} (h : Vr N K m H (.ref i) u) : ∃ a, u = .ref a ∧ m[i]? = some a := by cases h with | ref h => exact ⟨_, rfl, h⟩
theorem Vr.scr' {i : List Int} (h : Vr N K m H (.scr i) u) : ∃ a, u = .ref a ∧ SqF K H a (i.map V.int) := by cases h with | scr h => exact ⟨_, rfl, h⟩
theorem Vr.fn' {i : Nat} (h : Vr N K m H (.fn i) u) : u = .ref (He.ga K (N.g i)) := by cases h; rfl
theorem Vr.ty' {i : String} (h : Vr N K m H (.ty i) u) : u = .ty i := by cases h; rfl
theorem Vrs.nil' {us : List V} (h : Vrs N K m H [] us) : us = [] := by cases h; rfl
theorem Vrs.cons' {x : Vl} {xs : List Vl} {us : List V} (h : Vrs N K m H (x :: xs) us) : ∃ u ws, us = u :: ws ∧ Vr N K m H x u ∧ Vrs N K m H xs ws := by cases h with | cons h1 h2 => exact ⟨_, _, rfl, h1, h2⟩
theorem SR.lst (s : SR N K m S H) {i : Nat} {a : Addr} {xs : List Vl} (h : m[i]? = some a) (ho : S[i]? = some (.lst xs)) : ∃ ys, H a = some (.lst ys) ∧ Vrs N K m H xs ys := by
  obtain ⟨u, h1, h2⟩ := s.at_ h ho
  cases h2 with | lst r => exact ⟨_, h1, r⟩
theorem SR.dk (s : SR N K m S H) {i : Nat} {a : Addr} {xs : List (Key × Vl)} (h : m[i]? = some a) (ho : S[i]? = some (.dk xs)) : ∃ ys, H a = some (.dK ys) ∧ KR N K m H xs ys := by
  obtain ⟨u, h1, h2⟩ := s.at_ h ho
  cases h2 with | dk r => exact ⟨_, h1, r⟩
theorem SR.dt (s : SR N K m S H) {i : Nat} {a : Addr} {xs : List (List Key × Vl)} (h : m[i]? = some a) (ho : S[i]? = some (.dt xs)) : ∃ ys, H a = some (.dT ys) ∧ KR N K m H xs ys := by
  obtain ⟨u, h1, h2⟩ := s.at_ h ho
  cases h2 with | dt r => exact ⟨_, h1, r⟩
theorem SR.ins (s : SR N K m S H) {i c : Nat} {a : Addr} {fs : List (Nat × Vl)} (h : m[i]? = some a) (ho : S[i]? = some (.ins c fs)) : ∃ dx gs, H a = some (.ins (He.ga K (N.g c)) dx gs) ∧ FR N K m H fs gs := by
  obtain ⟨u, h1, h2⟩ := s.at_ h ho
  cases h2 with | ins r => exact ⟨_, _, h1, r⟩
end
/-! ### names, constants, operators -/
def xVar (i : Nat) : XE' := fun env S => match env[i]? with
  | some (some v) => .ok v S
  | _ => .bad
def xC (v : Vl) : XE' := fun _ S => .ok v S
def xOp (g : Vl → Vl → Sto → Out Vl) (a b : XE') : XE' := fun env S => (a env S).bind fun x S1 => (b env S1).bind fun y S2 => g x y S2
def xUn (g : Vl → Sto → Out Vl) (a : XE') : XE' := fun env S => (a env S).bind fun x S1 => g x S1
def aNil : XA := fun _ S => .ok [] S
def aCons (a : XE') (r : XA) : XA := fun env S => (a env S).bind fun x S1 => (r env S1).bind fun xs S2 => .ok (x :: xs) S2
def xTup (a : XA) : XE' := fun env S => (a env S).bind fun xs S1 => if xs.length ≤ 100000 then .ok (.tup xs) S1 else .bad
def xLst (a : XA) : XE' := fun env S => (a env S).bind fun xs S1 => if xs.length ≤ 100000 then .ok (.ref S1.length) (S1 ++ [.lst xs]) else .bad
def xCB (g : List Vl → Sto → Out Vl) (a : XA) : XE' := fun env S => (a env S).bind fun xs S1 => g xs S1
def toB : Vl → Sto → Out Bool
  | .bl b, S => .ok b S
  | _, _ => .bad
section
variable {N : Nms} {X : Cx} {W : L2.St → XK} {e a b : Expr} {es : List Expr} {fa fb : XE'} {f : XA} {pos p : Pos} {x : Str}
theorem se_var {i : Nat} (hN : X.N[i]? = some x) (hv : Vis X.env.scope x) (hd : (x == ("__debug__" : Str)) = false := by decide) (hcd : (x == ("__classdict__" : Str)) = false := by decide) : SE N X W (.Name x pos) (xVar i) := by
  refine ⟨_, pe_var hN hv hd hcd, fun m S H env σ Q s er h => ?_⟩
  unfold xVar at h
  cases q : env[i]? with
  | none => rw [q] at h; exact h.elim
  | some o =>
    cases o with
    | none => rw [q] at h; exact h.elim
    | some v =>
      rw [q] at h
      obtain ⟨u, h1, h2⟩ := er.at_ i v q
      exact ⟨u, h1, h.ok s h2⟩
theorem se_int {i : Int} {j} : SE N X W (.Constant (.int i) j pos) (xC (.int i)) := ⟨_, pe_int, fun m S H env σ Q s er h => h.ok s (.int i)⟩
theorem se_bl {i : Bool} {j} : SE N X W (.Constant (.bool i) j pos) (xC (.bl i)) := ⟨_, pe_bl, fun m S H env σ Q s er h => h.ok s (.bl i)⟩
theorem se_non {j} : SE N X W (.Constant .none j pos) (xC .non) := ⟨_, pe_non, fun m S H env σ Q s er h => h.ok s .non⟩
theorem se_str {i : Str} {j} : SE N X W (.Constant (.str i) j pos) (xC (.str i)) := ⟨_, pe_str, fun m S H env σ Q s er h => h.ok s (.str i)⟩
theorem se_gint {i : Int} (hg : Gl X x) (hm : ∃ t, X.mg x = some (.int i t)) (hd : (x == ("__debug__" : Str)) = false := by decide) : SE N X W (.Name x pos) (xC (.int i)) := ⟨_, pe_gint hg hm hd, fun m S H env σ Q s er h => h.ok s (.int i)⟩
theorem se_gstr {i : Str} (hg : Gl X x) (hm : ∃ t, X.mg x = some (.str i t)) (hd : (x == ("__debug__" : Str)) = false := by decide) : SE N X W (.Name x pos) (xC (.str i)) := ⟨_, pe_gstr hg hm hd, fun m S H env σ Q s er h => h.ok s (.str i)⟩
/-- a def, a class of the module -/
theorem se_gfn (k : Nat) (hg : Gl X (N.g k)) (hm : X.mg (N.g k) = some (.ref (He.ga X.K (N.g k)))) (hd : (N.g k == ("__debug__" : Str)) = false := by decide) : SE N X W (.Name (N.g k) pos) (xC (.fn k)) := ⟨_, pe_gref hg hm hd, fun m S H env σ Q s er h => h.ok s (.fn k)⟩
theorem se_bltn {n : String} (hg : Gl X x) (hm : X.mg x = none) (hv : bootBuiltins x = some (.type n)) (hn : x ≠ "__name__" := by decide) (hd : (x == ("__debug__" : Str)) = false := by decide) : SE N X W (.Name x pos) (xC (.ty n)) :=
  ⟨_, pe_bltn (v := .ty n) hg hm hv rfl hn hd, fun m S H env σ Q s er h => h.ok s (.ty n)⟩
theorem sim_op {ta tb : TE} {r : R2} {g : Vl → Vl → Sto → Out Vl} (hr : OpS N X.K r g) (s1 : Sim N X.K (Vr N X.K) W ta fa) (s2 : Sim N X.K (Vr N X.K) W tb fb) : Sim N X.K (Vr N X.K) W (tOp r ta tb) (xOp g fa fb) := fun m S H env σ Q s er h =>
  s1.step s er h fun x S1 m1 H1 u e1 sr1 r1 er1 h1 => s2.step sr1 er1 h1 fun y S2 m2 H2 w e2 sr2 r2 er2 h2 => hr m2 S2 H2 x y u w Q _ sr2 (r1.mono e2) r2 h2
theorem se_op {op : Operator} {g : Vl → Vl → Sto → Out Vl} (ho : OpM N X (binaryOp op) g) (ha : SE N X W a fa) (hb : SE N X W b fb) : SE N X W (.BinOp a op b pos) (xOp g fa fb) := by
  obtain ⟨r, h1, h2⟩ := ho.ex
  obtain ⟨ta, p1, s1⟩ := ha.ex
  obtain ⟨tb, p2, s2⟩ := hb.ex
  exact ⟨_, pe_op h1 p1 p2, sim_op h2 s1 s2⟩
theorem se_cmp {op : CmpOp} {g : Vl → Vl → Sto → Out Vl} (ho : OpM N X (compareOp op) g) (ha : SE N X W a fa) (hb : SE N X W b fb) (hm : behindInMarks op b = false) : SE N X W (.Compare a [op] [b] pos) (xOp g fa fb) := by
  obtain ⟨r, h1, h2⟩ := ho.ex
  obtain ⟨ta, p1, s1⟩ := ha.ex
  obtain ⟨tb, p2, s2⟩ := hb.ex
  exact ⟨_, pe_cmpR h1 p1 p2 hm, sim_op h2 s1 s2⟩
theorem sim_test {ta : TE} (s1 : Sim N X.K (Vr N X.K) W ta fa) : Sim N X.K RvB W (tTest ta) (fun env S => (fa env S).bind toB) := fun m S H env σ Q s er h =>
  s1.step s er h fun x S1 m1 H1 u e1 sr1 r1 er1 h1 => by
    cases x <;> first | exact h1.elim | skip
    rename_i k
    cases r1
    exact ⟨k, rfl, h1.ok sr1 rfl⟩
def yCmp (g : Vl → Vl → Sto → Out Vl) (a b : XE') : XT := fun env S => (xOp g a b env S).bind toB
theorem st_cmp {op : CmpOp} {g : Vl → Vl → Sto → Out Vl} (ho : OpM N X (compareOp op) g) (ha : SE N X W a fa) (hb : SE N X W b fb) (hm : behindInMarks op b = false) : ST N X W (.Compare a [op] [b] pos) (yCmp g fa fb) := by
  obtain ⟨r, h1, h2⟩ := ho.ex
  obtain ⟨ta, p1, s1⟩ := ha.ex
  obtain ⟨tb, p2, s2⟩ := hb.ex
  exact ⟨_, pt_cmpR h1 p1 p2 hm, sim_test (sim_op h2 s1 s2)⟩
theorem se_un {op : UnaryOp} {r : V → Hp → VK → Prop} {g : Vl → Sto → Out Vl} (ho : UnR X (unaryOp op) r) (hg : UnS N X.K r g) (ha : SE N X W a fa) : SE N X W (.UnaryOp op a pos) (xUn g fa) := by
  obtain ⟨ta, p1, s1⟩ := ha.ex
  exact ⟨_, pe_un ho p1, fun m S H env σ Q s er h => s1.step s er h fun x S1 m1 H1 u e1 sr1 r1 er1 h1 => hg m1 S1 H1 x u Q _ sr1 r1 h1⟩
theorem sa_nil : SA N X W [] aNil := ⟨_, pa_nil, fun m S H env σ Q s er h => h.ok s .nil⟩
theorem sa_cons (ha : SE N X W e fa) (hr : SA N X W es f) (hs : starEach (e :: es) X.env = (false, eval e X.env) :: starEach es X.env := by rfl) : SA N X W (e :: es) (aCons fa f) := by
  obtain ⟨ta, p1, s1⟩ := ha.ex
  obtain ⟨tr, p2, s2⟩ := hr.ex
  refine ⟨_, pa_cons p1 p2 hs, fun m S H env σ Q s er h => s1.step s er h fun x S1 m1 H1 u e1 sr1 r1 er1 h1 => ?_⟩
  exact s2.step sr1 er1 h1 fun xs S2 m2 H2 us e2 sr2 r2 er2 h2 => h2.ok sr2 (.cons (r1.mono e2) r2)
theorem se_tup {x1} (h : SA N X W es f) : SE N X W (.Tuple es x1 pos) (xTup f) := by
  obtain ⟨tr, p2, s2⟩ := h.ex
  refine ⟨_, pe_tup p2, fun m S H env σ Q s er h => s2.step s er h fun xs S1 m1 H1 us e1 sr1 r1 er1 h1 => ?_⟩
  split at h1
  · rename_i hl
    refine ⟨sz_of (by rw [← r1.len]; exact hl), fun q hq => h1.to (Ext.same (Same.new hq)) (sr1.same (Same.new hq)) (.tup upd_same (r1.mono (Ext.same (Same.new hq))))⟩
  · exact h1.elim
theorem se_lst (h : SA N X W es f) : SE N X W (.List es pos) (xLst f) := by
  obtain ⟨tr, p2, s2⟩ := h.ex
  refine ⟨_, pe_lst p2, fun m S H env σ Q s er h => s2.step s er h fun xs S1 m1 H1 us e1 sr1 r1 er1 h1 => ?_⟩
  split at h1
  · rename_i hl
    refine ⟨sz_of (by rw [← r1.len]; exact hl), fun q hq => h1.to (Ext.app (Same.new hq)) (sr1.new (Same.new hq) hq upd_same (.lst r1)) sr1.ref_new⟩
  · exact h1.elim
theorem se_callB {id : String} {g : List Vl → Sto → Out Vl} (hc : CallM N X (.builtin id) g) (hg : Gl X x) (hm : X.mg x = none) (hv : bootBuiltins x = some (.builtin id)) (ha : SA N X W (e :: es) f) (hn : x ≠ "__name__" := by decide) (hdb : (x == ("__debug__" : Str)) = false := by decide)
    (he : starEach (e :: es) X.env = (false, eval e X.env) :: starEach es X.env := by rfl) (hpl : (backTo pos (starEach es X.env)).any (·.1) = false := by rfl) : SE N X W (.Call (.Name x p) (e :: es) [] pos) (xCB g f) := by
  obtain ⟨r, h1, h2⟩ := hc.ex
  obtain ⟨ta, p1, s1⟩ := ha.ex
  exact ⟨_, pe_callB h1 hg hm hv p1 hn hdb he hpl, fun m S H env σ Q s er h => s1.step s er h fun x S1 m1 H1 u e1 sr1 r1 er1 h1 => h2 m1 S1 H1 x u Q _ sr1 r1 h1⟩
theorem se_callTy {T : String} {g : List Vl → Sto → Out Vl} (hc : CallM N X (.type T) g) (hg : Gl X x) (hm : X.mg x = none) (hv : bootBuiltins x = some (.type T)) (ha : SA N X W (e :: es) f) (hn : x ≠ "__name__" := by decide) (hdb : (x == ("__debug__" : Str)) = false := by decide)
    (he : starEach (e :: es) X.env = (false, eval e X.env) :: starEach es X.env := by rfl) (hpl : (backTo pos (starEach es X.env)).any (·.1) = false := by rfl) : SE N X W (.Call (.Name x p) (e :: es) [] pos) (xCB g f) := by
  obtain ⟨r, h1, h2⟩ := hc.ex
  obtain ⟨ta, p1, s1⟩ := ha.ex
  exact ⟨_, pe_callTy h1 hg hm hv p1 hn hdb he hpl, fun m S H env σ Q s er h => s1.step s er h fun x S1 m1 H1 u e1 sr1 r1 er1 h1 => h2 m1 S1 H1 x u Q _ sr1 r1 h1⟩
end
/-! ### truth, and, or, not, if -/
def truth : Vl → Sto → Out Bool
  | .non, S => .ok false S
  | .bl b, S => .ok b S
  | .int i, S => .ok (i != 0) S
  | .str y, S => if y.length ≤ 100000 then .ok ((y.length : Int) != 0) S else .bad
  | .tup xs, S => .ok (!xs.isEmpty) S
  | .ktp xs, S => .ok (!xs.isEmpty) S
  | .scr ns, S => .ok (!ns.isEmpty) S
  | .ref i, S => match S[i]? with
    | some (.lst xs) => .ok (!xs.isEmpty) S
    | some (.dk kvs) => .ok (!kvs.isEmpty) S
    | _ => .bad
  | _, _ => .bad
theorem truth_ok {N : Nms} {K : PySem.W.Frag} {m : List Addr} {S S' : Sto} {H : Hp} {x : Vl} {u : V} {b : Bool} (s : SR N K m S H) (r : Vr N K m H x u) (h : truth x S = .ok b S') : TruV K u H b ∧ S' = S := by
  cases x with
  | non => cases r; cases h; exact ⟨rfl, rfl⟩
  | bl _ => cases r; cases h; exact ⟨rfl, rfl⟩
  | int _ => cases r; cases h; exact ⟨rfl, rfl⟩
  | str y =>
    cases r
    simp only [truth] at h
    split at h
    · rename_i q
      cases h
      exact ⟨⟨sz_of q, rfl⟩, rfl⟩
    · cases h
  | tup xs =>
    obtain ⟨a, ys, rfl, h1, h2⟩ := r.tup'
    cases h
    refine ⟨.inr (.inl ⟨ys, st_of h1, ?_⟩), rfl⟩
    cases h2 <;> rfl
  | ktp xs =>
    obtain ⟨a, ys, rfl, h1, h2⟩ := r.asT rfl
    cases h
    refine ⟨.inr (.inl ⟨ys, h1, ?_⟩), rfl⟩
    cases h2 <;> rfl
  | scr ns =>
    obtain ⟨a, rfl, h1⟩ := r.scr'
    cases h
    refine ⟨.inl ⟨_, h1.l, ?_⟩, rfl⟩
    cases ns <;> rfl
  | ref i =>
    obtain ⟨a, rfl, h1⟩ := r.ref'
    simp only [truth] at h
    split at h
    · rename_i xs q
      cases h
      obtain ⟨ys, h2, h3⟩ := s.lst h1 q
      refine ⟨.inl ⟨ys, sq_of h2, ?_⟩, rfl⟩
      cases h3 <;> rfl
    · rename_i xs q
      cases h
      obtain ⟨ys, h2, h3⟩ := s.dk h1 q
      refine ⟨.inr (.inr ⟨ys, h2, ?_⟩), rfl⟩
      cases h3 <;> rfl
    · cases h
  | fn _ => cases h
  | ty _ => cases h
def yV (a : XE') : XT := fun env S => (a env S).bind truth
def yAnd (a b : XT) : XT := fun env S => (a env S).bind fun c S1 => if c = true then b env S1 else .ok false S1
def yOr (a b : XT) : XT := fun env S => (a env S).bind fun c S1 => if c = true then .ok true S1 else b env S1
def yNot (a : XT) : XT := fun env S => (a env S).bind fun c S1 => .ok (!c) S1
def xIf (t : XT) (a b : XE') : XE' := fun env S => (t env S).bind fun c S1 => if c = true then a env S1 else b env S1
def xAnd (a b : XE') : XE' := fun env S => (a env S).bind fun x S1 => (truth x S1).bind fun c S2 => if c = true then b env S2 else .ok x S2
def xOr (a b : XE') : XE' := fun env S => (a env S).bind fun x S1 => (truth x S1).bind fun c S2 => if c = true then .ok x S2 else b env S2
def xNot (a : XE') : XE' := fun env S => (a env S).bind fun x S1 => (truth x S1).bind fun c S2 => .ok (.bl (!c)) S2
section
variable {N : Nms} {X : Cx} {W : L2.St → XK} {e a b c : Expr} {es rest : List Expr} {fa fb : XE'} {f : XA} {ft fu : XT} {pos p : Pos} {x : Str}
/-- a value's truth, then the rest -/
theorem truth_step {γ δ : Type} {R' : List Addr → Hp → γ → δ → Prop} {K : PySem.W.Frag} {m : List Addr} {S : Sto} {H : Hp} {x : Vl} {u : V} {g : Bool → Sto → Out γ} {Q' : δ → Hp → Prop} {E : XK} {P : Prop} (s : SR N K m S H) (r : Vr N K m H x u)
    (h : Post N K R' m H Q' E ((truth x S).bind g)) (k : ∀ b, TruV K u H b → Post N K R' m H Q' E (g b S) → P) : P := by
  cases q : truth x S with
  | ok b S' =>
    obtain ⟨h1, rfl⟩ := truth_ok s r q
    rw [q] at h
    exact k b h1 h
  | err c y S' =>
    exfalso
    cases x <;> (simp only [truth] at q; first | cases q | (split at q <;> cases q) | skip)
  | bad => rw [q] at h; exact h.elim
theorem st_val (ha : SE N X W a fa) (he : ∀ whole, isTrue a X.env whole = (do let v ← whole; standAt a.pos; holding [v] (truthy v)) := by intro _; rfl) : ST N X W a (yV fa) := by
  obtain ⟨ta, p1, s1⟩ := ha.ex
  refine ⟨_, pt_truth p1 he, fun m S H env σ Q s er h => s1.step s er h fun x S1 m1 H1 u e1 sr1 r1 er1 h1 => ?_⟩
  have h1' : Post N X.K RvB m1 H1 Q (W σ) ((truth x S1).bind fun b S => .ok b S) := by
    cases q : truth x S1 <;> (rw [q] at h1; exact h1)
  exact truth_step sr1 r1 h1' fun b tb hb => ⟨b, tb, hb.ok sr1 rfl⟩
theorem sw_and1 (ha : ST N X W a ft) : SW N X W (.BoolOp .And [a] pos) ft := by
  obtain ⟨ta, p1, s1⟩ := ha.ex
  exact ⟨_, pw_and1 p1, s1⟩
theorem sw_or1 (ha : ST N X W a ft) : SW N X W (.BoolOp .Or [a] pos) ft := by
  obtain ⟨ta, p1, s1⟩ := ha.ex
  exact ⟨_, pw_or1 p1, s1⟩
theorem sw_and (ha : ST N X W a ft) (hb : SW N X W (.BoolOp .And (b :: rest) pos) fu) : SW N X W (.BoolOp .And (a :: b :: rest) pos) (yAnd ft fu) := by
  obtain ⟨ta, p1, s1⟩ := ha.ex
  obtain ⟨tb, p2, s2⟩ := hb.ex
  refine ⟨_, pw_and p1 p2, fun m S H env σ Q s er h => s1.step s er h fun c S1 m1 H1 u e1 sr1 r1 er1 h1 => ?_⟩
  cases r1
  cases c with
  | true => exact s2 m1 S1 H1 env σ Q sr1 er1 h1
  | false => exact h1.ok sr1 rfl
theorem sw_or (ha : ST N X W a ft) (hb : SW N X W (.BoolOp .Or (b :: rest) pos) fu) : SW N X W (.BoolOp .Or (a :: b :: rest) pos) (yOr ft fu) := by
  obtain ⟨ta, p1, s1⟩ := ha.ex
  obtain ⟨tb, p2, s2⟩ := hb.ex
  refine ⟨_, pw_or p1 p2, fun m S H env σ Q s er h => s1.step s er h fun c S1 m1 H1 u e1 sr1 r1 er1 h1 => ?_⟩
  cases r1
  cases c with
  | false => exact s2 m1 S1 H1 env σ Q sr1 er1 h1
  | true => exact h1.ok sr1 rfl
theorem SW.st (h : SW N X W a ft) : ST N X W a ft := by
  obtain ⟨ta, p1, s1⟩ := h.ex
  exact ⟨_, p1.pt, s1⟩
theorem st_not (ha : ST N X W a ft) : ST N X W (.UnaryOp .Not a pos) (yNot ft) := by
  obtain ⟨ta, p1, s1⟩ := ha.ex
  refine ⟨_, pt_not p1, fun m S H env σ Q s er h => s1.step s er h fun c S1 m1 H1 u e1 sr1 r1 er1 h1 => ?_⟩
  cases r1
  exact h1.ok sr1 rfl
theorem se_if (hc : ST N X W c ft) (ha : SE N X W a fa) (hb : SE N X W b fb) : SE N X W (.IfExp c a b pos) (xIf ft fa fb) := by
  obtain ⟨tt, p0, s0⟩ := hc.ex
  obtain ⟨ta, p1, s1⟩ := ha.ex
  obtain ⟨tb, p2, s2⟩ := hb.ex
  refine ⟨_, pe_ifExp p0 p1 p2, fun m S H env σ Q s er h => s0.step s er h fun c S1 m1 H1 u e1 sr1 r1 er1 h1 => ?_⟩
  cases r1
  cases c with
  | true => exact s1 m1 S1 H1 env σ Q sr1 er1 h1
  | false => exact s2 m1 S1 H1 env σ Q sr1 er1 h1
theorem se_one {op} (ha : SE N X W a fa) : SE N X W (.BoolOp op [a] pos) fa := by
  obtain ⟨ta, p1, s1⟩ := ha.ex
  exact ⟨_, pe_one p1, s1⟩
theorem se_and (ha : SE N X W a fa) (hb : SE N X W (.BoolOp .And (b :: rest) pos) fb) : SE N X W (.BoolOp .And (a :: b :: rest) pos) (xAnd fa fb) := by
  obtain ⟨ta, p1, s1⟩ := ha.ex
  obtain ⟨tb, p2, s2⟩ := hb.ex
  refine ⟨_, pe_andT p1 p2, fun m S H env σ Q s er h => s1.step s er h fun x S1 m1 H1 u e1 sr1 r1 er1 h1 => ?_⟩
  refine truth_step sr1 r1 h1 fun k tk hk => ⟨k, tk, ?_⟩
  cases k with
  | true => exact s2 m1 S1 H1 env σ Q sr1 er1 hk
  | false => exact hk.ok sr1 r1
theorem se_or (ha : SE N X W a fa) (hb : SE N X W (.BoolOp .Or (b :: rest) pos) fb) : SE N X W (.BoolOp .Or (a :: b :: rest) pos) (xOr fa fb) := by
  obtain ⟨ta, p1, s1⟩ := ha.ex
  obtain ⟨tb, p2, s2⟩ := hb.ex
  refine ⟨_, pe_orT p1 p2, fun m S H env σ Q s er h => s1.step s er h fun x S1 m1 H1 u e1 sr1 r1 er1 h1 => ?_⟩
  refine truth_step sr1 r1 h1 fun k tk hk => ⟨k, tk, ?_⟩
  cases k with
  | false => exact s2 m1 S1 H1 env σ Q sr1 er1 hk
  | true => exact hk.ok sr1 r1
theorem se_not (ha : SE N X W a fa) : SE N X W (.UnaryOp .Not a pos) (xNot fa) := by
  obtain ⟨ta, p1, s1⟩ := ha.ex
  refine ⟨_, pe_notT p1, fun m S H env σ Q s er h => s1.step s er h fun x S1 m1 H1 u e1 sr1 r1 er1 h1 => ?_⟩
  exact truth_step sr1 r1 h1 fun k tk hk => ⟨k, tk, hk.ok sr1 (.bl _)⟩
/-- a op b op c -/
def xChain (g g' : Vl → Vl → Sto → Out Vl) (a b c : XE') : XE' := fun env S => (a env S).bind fun x S1 => (b env S1).bind fun y S2 => (g x y S2).bind fun z S3 => (toB z S3).bind fun k S4 => if k = true then (c env S4).bind fun w S5 => g' y w S5 else .ok (.bl false) S4
end
end Nt

namespace Nt
open PySem PySem.Spec PyProof.Rows L2 Evl
/-! ### calls: arguments and keywords together -/
abbrev XB := En → Sto → Out (List Vl × List Vl)
abbrev TB := L2.St → Hp → (List V × List V → Hp → Prop) → Prop
abbrev RB (N : Nms) (K : PySem.W.Frag) (m : List Addr) (H : Hp) (a : List Vl × List Vl) (b : List V × List V) : Prop := Vrs N K m H a.1 b.1 ∧ Vrs N K m H a.2 b.2
structure PB (X : Cx) (es : List Expr) (kws : List Keyword) (pos : Pos) (ks : List Str) (t : TB) : Prop where
  run : ∀ (f : Value) (first : List Value) (pins : List (Addr × Obj)) (s : Shared) (σ : L2.St) (H : Hp) (Q : List V × List V → Hp → Prop) (Qf : Value → Shared → Prop), PySem.W.keepIn X.K f = true → Inv X pins σ H s → t σ H Q →
    (∀ us ws vs zs s' H', Inv X pins σ H' s' → Vals vs us → Vals zs ws → Q (vs, zs) H' → wpAny (model X.prog X.w) X.A (call f (first ++ us) (ks.zip ws)) Qf X.xe s') →
    wpAny (model X.prog X.w) X.A (callWith pos f first (backTo pos (starEach es X.env)) (backToKw pos (keywordEach kws X.env))) Qf X.xe s
structure SB (N : Nms) (X : Cx) (W : L2.St → XK) (es : List Expr) (kws : List Keyword) (pos : Pos) (ks : List Str) (f : XB) : Prop where
  ex : ∃ t, PB X es kws pos ks t ∧ Sim N X.K (RB N X.K) W t f
structure SK (N : Nms) (X : Cx) (W : L2.St → XK) (kws : List Keyword) (f : XA) : Prop where
  ex : ∃ t, PK X kws t ∧ Sim N X.K (Vrs N X.K) W t f
def bArgs (a k : XA) : XB := fun env S => (a env S).bind fun xs S1 => (k env S1).bind fun zs S2 => .ok (xs, zs) S2
section
variable {N : Nms} {X : Cx} {W : L2.St → XK} {e a b c : Expr} {es rest : List Expr} {fa fb : XE'} {f fk : XA} {pos p kpos : Pos} {x : Str} {kws : List Keyword} {ks : List Str} {nm : Option Str}
theorem sk_nil : SK N X W [] aNil := ⟨_, pk_nil, fun m S H env σ Q s er h => h.ok s .nil⟩
theorem sk_cons (ha : SE N X W e fa) (hr : SK N X W kws fk) : SK N X W (⟨nm, e, kpos⟩ :: kws) (aCons fa fk) := by
  obtain ⟨ta, p1, s1⟩ := ha.ex
  obtain ⟨tr, p2, s2⟩ := hr.ex
  refine ⟨_, pk_cons p1 p2, fun m S H env σ Q s er h => s1.step s er h fun x S1 m1 H1 u e1 sr1 r1 er1 h1 => ?_⟩
  exact s2.step sr1 er1 h1 fun xs S2 m2 H2 us e2 sr2 r2 er2 h2 => h2.ok sr2 (.cons (r1.mono e2) r2)
theorem sb_cons (ha : SA N X W (e :: es) f) (hk : SK N X W kws fk) (hall : (backToKw pos (keywordEach kws X.env)).all (·.1.isSome) = true := by rfl) (hks : (backToKw pos (keywordEach kws X.env)).filterMap (·.1) = ks := by rfl)
    (he : starEach (e :: es) X.env = (false, eval e X.env) :: starEach es X.env := by rfl) (hpl : ((backTo pos (starEach (e :: es) X.env)).any (·.1) || (backToKw pos (keywordEach kws X.env)).any (·.1.isNone)) = false := by rfl) :
    SB N X W (e :: es) kws pos ks (bArgs f fk) := by
  obtain ⟨ta, p1, s1⟩ := ha.ex
  obtain ⟨tk, p2, s2⟩ := hk.ex
  refine ⟨fun σ H Q => ta σ H fun vs H1 => tk σ H1 fun zs H2 => Q (vs, zs) H2, ⟨fun fv first pins s σ H Q Qf hf I h k => ?_⟩, fun m S H env σ Q s er h => s1.step s er h fun x S1 m1 H1 u e1 sr1 r1 er1 h1 => ?_⟩
  · refine PySem.W.callWith_KW (h₀ := X.base) I.ok.mod.kin hf hall (thn (p1.run pos pins s σ H _ I h) fun us s1 ⟨vs, H1, I1, r, q⟩ => ?_) hpl he
    refine thn (p2.run pos pins s1 σ H1 _ I1 q) fun ws s2 ⟨zs, H2, I2, rz, q2⟩ => ⟨I2.kIn, ?_⟩
    rw [hks]
    exact k us ws vs zs s2 H2 I2 r rz q2
  · exact s2.step sr1 er1 h1 fun xs S2 m2 H2 us e2 sr2 r2 er2 h2 => h2.ok sr2 ⟨r1.mono e2, r2⟩
theorem sb_nil (hk : SK N X W kws fk) (hall : (backToKw pos (keywordEach kws X.env)).all (·.1.isSome) = true := by rfl) (hks : (backToKw pos (keywordEach kws X.env)).filterMap (·.1) = ks := by rfl)
    (hpl : ((backTo pos (starEach [] X.env)).any (·.1) || (backToKw pos (keywordEach kws X.env)).any (·.1.isNone)) = false := by rfl) : SB N X W [] kws pos ks (bArgs aNil fk) := by
  obtain ⟨tk, p2, s2⟩ := hk.ex
  refine ⟨fun σ H Q => tk σ H fun zs H2 => Q ([], zs) H2, ⟨fun fv first pins s σ H Q Qf hf I h k => ?_⟩, fun m S H env σ Q s er h => ?_⟩
  · refine PySem.W.callWith_KW0 (h₀ := X.base) I.ok.mod.kin hf hall ?_ hpl
    refine thn (p2.run pos pins s σ H _ I h) fun ws s2 ⟨zs, H2, I2, rz, q2⟩ => ⟨I2.kIn, ?_⟩
    rw [hks]
    exact k [] ws [] zs s2 H2 I2 .nil rz q2
  · exact s2.step s er h fun xs S2 m2 H2 us e2 sr2 r2 er2 h2 => h2.ok sr2 ⟨.nil, r2⟩
end
/-! ### defs -/
/-- the promise of a def that does as mf says -/
def spM (N : Nms) (K : PySem.W.Frag) (np : Nat) (mf : List Vl → Sto → Out Vl) : Sp := fun vs H Q E => ∃ m S args, args.length = np ∧ SR N K m S H ∧ Vrs N K m H args vs ∧ Post N K (Vr N K) m H Q E (mf args S)
/-- a def at f: T tells its text -/
structure FnM (N : Nms) (P : Program) (w : World) (K : PySem.W.Frag) (mg : Str → Option Value) (base : Heap) (CX : CXT) (k : Nat) (f : Addr) (T : FuncData → Prop) (ps : List Str) (mf : List Vl → Sto → Out Vl) : Prop where
  ex : ∃ fd, T fd ∧ PySem.W.keepIn K (.ref f) = true ∧ FnOk P w K mg base CX k f fd ps (spM N K ps.length mf)
theorem FnM.mono {N : Nms} {P : Program} {w : World} {K : PySem.W.Frag} {mg : Str → Option Value} {base : Heap} {CX : CXT} {j k : Nat} {f : Addr} {T : FuncData → Prop} {ps : List Str} {mf : List Vl → Sto → Out Vl} (D : FnM N P w K mg base CX j f T ps mf) (h : j ≤ k) : FnM N P w K mg base CX k f T ps mf := by
  obtain ⟨fd, h1, h2, h3⟩ := D.ex
  exact ⟨fd, h1, h2, h3.mono h⟩
/-- how a call of n values and the keywords ks binds -/
def Bd (N : Nms) (K : PySem.W.Frag) (T : FuncData → Prop) (ps : List Str) (n : Nat) (ks : List Str) (gL : List Vl → List Vl → List Vl) : Prop := ∀ fd, T fd → ∃ g gV, KBn K fd ps n ks g gV ∧
  ∀ m H xs us zs ws, Vrs N K m H xs us → Vrs N K m H zs ws → Vrs N K m H (gL xs zs) (gV us ws)
theorem bd_all {N : Nms} {K : PySem.W.Frag} {x qual : Str} {params : Arguments} {body : List Stmt} {scope : Scope} {kws : List (Str × V)} {f : Addr} {ps : List Str}
    (hb : ∀ (kV doc pm : Value) (an : Option Addr) (cdv ct : Value) (us : List Value), us.length = ps.length → bindArgs (PySem.W.fnOf x qual params body scope .none kV doc pm an cdv ct) ⟨us, []⟩ = pure (ps.zip us)) :
    Bd N K (FunD K x qual params body scope [] kws f) ps ps.length [] (fun xs _ => xs) := fun fd F => by
  have hB := F.bindsN (ps := ps) hb
  refine ⟨fun us _ => us, fun us _ => us, ⟨fun s us ws X l1 l2 => ?_, fun r _ => r⟩, fun m H xs us zs ws r _ => r⟩
  have := hB s us X (by rw [List.append_nil]; exact l1)
  rw [List.append_nil] at this
  exact this
def enter (n : Nat) (args : List Vl) : En := args.map some ++ List.replicate (n - args.length) none
theorem enter_ok {N : Nms} {K : PySem.W.Frag} {m : List Addr} {H : Hp} {L : List Str} {args : List Vl} {vs : List V} (h0 : N.xh = none) (r : Vrs N K m H args vs) : EnR N K m H (enter L.length args) (L2.start L vs) := by
  refine ⟨?_, fun i v h => ?_, fun i a e => (by rw [h0] at e; cases e), fun i a j d e => (by rw [h0] at e; cases e)⟩
  · unfold enter L2.start
    rw [List.length_append, List.length_append, List.length_map, List.length_map, r.len, List.length_replicate, List.length_replicate]
  · unfold enter at h
    unfold L2.start
    rcases Nat.lt_or_ge i args.length with q | q
    · rw [List.getElem?_append_left (by rw [List.length_map]; exact q), List.getElem?_map] at h
      rw [List.getElem?_append_left (by rw [List.length_map, ← r.len]; exact q), List.getElem?_map]
      cases z : args[i]? with
      | none => rw [z] at h; cases h
      | some x =>
        rw [z] at h
        cases h
        obtain ⟨u, h1, h2⟩ := r.get z
        exact ⟨u, by rw [h1]; rfl, h2⟩
    · rw [List.getElem?_append_right (by rw [List.length_map]; exact q)] at h
      have := List.mem_of_getElem? h
      rw [List.mem_replicate] at this
      cases this.2
section
variable {X : Cx} {CX : CXT} {k n : Nat} {f C : Addr} {fd : FuncData} {ps ks : List Str} {sp : Sp} {g : List Value → List Value → List Value} {gV : List V → List V → List V}
theorem run_fnG {pins : List (Addr × Obj)} {σ : L2.St} {H : Hp} {s : Shared} {Q : VK} {E : XK} {us ws : List Value} {vs zs : List V} (F : FnOk X.prog X.w X.K X.mg X.base CX k f fd ps sp) (hr : Room k X.A) (hb : KBn X.K fd ps n ks g gV) (hx : PassesAt CX X σ E)
    (I : Inv X pins σ H s) (r : Vals vs us) (rz : Vals zs ws) (l1 : vs.length = n) (l2 : zs.length = ks.length) (h : sp (gV vs zs) H Q E) : wpAny (model X.prog X.w) X.A (call (.ref f) us (ks.zip ws)) (EP X pins σ Q) X.xe s := by
  have r2 := hb.rel r rz
  refine wpAny_call (codeAny_mono (F.run X.A X.stack s H ⟨us, ks.zip ws⟩ (g us ws) (gV vs zs) Q E hr I.env0 (hb.to s us ws I.kIn (r.length.symm.trans l1) (rz.length.symm.trans l2)) r2 h) fun r s' hq => ?_)
  cases r with
  | error e => exact hx pins H s e s' I hq
  | ok fl =>
    cases fl with
    | ret u => exact I.after hq
    | next => exact False.elim hq
    | brk => exact False.elim hq
    | cont => exact False.elim hq
theorem run_makeG {pins : List (Addr × Obj)} {σ : L2.St} {H : Hp} {s : Shared} {Q : VK} {E : XK} {us ws : List Value} {vs zs : List V} (M : Mk X.K C f) (F : FnOk X.prog X.w X.K X.mg X.base CX k f fd ps sp) (hr : Room (k + 1) X.A) (hb : KBn X.K fd ps (n + 1) ks g gV) (hx : PassesAt CX X σ E)
    (I : Inv X pins σ H s) (r : Vals vs us) (rz : Vals zs ws) (l1 : vs.length = n) (l2 : zs.length = ks.length)
    (h : ∀ x dx, H x = none → H dx = none → dx ≠ x → sp (gV (.ref x :: vs) zs) (upd (upd H dx (.own x)) x (.ins C dx [])) (fun v H2 => v = .non ∧ Q (.ref x) H2) E) :
    wpAny (model X.prog X.w) X.A (call (.ref C) us (ks.zip ws)) (EP X pins σ Q) X.xe s := by
  have hq := h (s.heap.objs.size + 1) s.heap.objs.size (I.hok.fresh (Nat.le_succ _)) (I.hok.fresh (Nat.le_refl _)) (Nat.ne_of_lt (Nat.lt_succ_self _))
  have I2 := Inv.made (C := C) I
  have r1 : Vals (V.ref (s.heap.objs.size + 1) :: vs) (Value.ref (s.heap.objs.size + 1) :: us) := .cons rfl r
  have r2 := hb.rel r1 rz
  have n1 : (Value.ref (s.heap.objs.size + 1) :: us).length = n + 1 := by
    rw [List.length_cons, ← r.length, l1]
  refine wpAny_call (make_map (f := f) I.kIn M.makes M.init (beq_iff_eq.mp M.fn) (codeAny_mono (F.run _ X.stack _ _ ⟨Value.ref (s.heap.objs.size + 1) :: us, ks.zip ws⟩ (g (Value.ref (s.heap.objs.size + 1) :: us) ws) _ _ E (hr.make C us (ks.zip ws))
    (I2.env0.make C us (ks.zip ws)) (hb.to _ (Value.ref (s.heap.objs.size + 1) :: us) ws I2.kIn n1 (rz.length.symm.trans l2)) r2 hq) fun r s' hq' => ?_))
  cases r with
  | error e => exact hx pins _ _ e s' I2 hq'
  | ok fl =>
    cases fl with
    | ret u =>
      obtain ⟨v, H', I3, rv, ev, q3⟩ := I2.after hq'
      subst ev
      exact ⟨rv, ⟨V.ref (s.heap.objs.size + 1), H', I3, rfl, q3⟩⟩
    | next => exact False.elim hq'
    | brk => exact False.elim hq'
    | cont => exact False.elim hq'
end
/-! ### the calls by the store -/
def xCall (n : Nat) (np : Nat) (gL : List Vl → List Vl → List Vl) (nk : Nat) (mf : List Vl → Sto → Out Vl) (a : XB) : XE' := fun env S => (a env S).bind fun xz S1 => if xz.1.length = n ∧ xz.2.length = nk ∧ (gL xz.1 xz.2).length = np then mf (gL xz.1 xz.2) S1 else .bad
section
variable {N : Nms} {X : Cx} {W : L2.St → XK} {e o : Expr} {es : List Expr} {fa fb : XE'} {f : XB} {pos p apos : Pos} {x md : Str} {kws : List Keyword} {ks ps : List Str} {CX : CXT} {k n : Nat} {fA : Addr} {T : FuncData → Prop} {mf : List Vl → Sto → Out Vl} {gL : List Vl → List Vl → List Vl}
theorem se_call (F : FnM N X.prog X.w X.K X.mg X.base CX k fA T ps mf) (B : Bd N X.K T ps n ks gL) (hr : Room k X.A) (hg : Gl X x) (hm : X.mg x = some (.ref fA)) (hx : ∀ σ, PassesAt CX X σ (W σ)) (ha : SB N X W es kws pos ks f)
    (hdb : (x == ("__debug__" : Str)) = false := by decide) : SE N X W (.Call (.Name x p) es kws pos) (xCall n ps.length gL ks.length mf f) := by
  obtain ⟨fd, hT, hk, F⟩ := F.ex
  obtain ⟨g, gV, hb, hc⟩ := B fd hT
  obtain ⟨tb, p1, s1⟩ := ha.ex
  refine ⟨fun σ H Q => tb σ H fun vz H1 => vz.1.length = n ∧ vz.2.length = ks.length ∧ spM N X.K ps.length mf (gV vz.1 vz.2) H1 Q (W σ), ⟨fun pins s σ H Q I h => ?_⟩, fun m S H env σ Q s er h => s1.step s er h fun xz S1 m1 H1 u e1 sr1 r1 er1 h1 => ?_⟩
  · refine wpAny_Call_Name_kw (ld_glob I hg hm ?_ hdb)
    exact p1.run _ [] pins s σ H _ _ hk I h fun us ws vs zs s' H' I' r rz q => run_fnG F hr hb (hx σ) I' r rz q.1 q.2.1 q.2.2
  · split at h1
    · rename_i hl
      exact ⟨by rw [← r1.1.len]; exact hl.1, by rw [← r1.2.len]; exact hl.2.1, m1, S1, _, hl.2.2, sr1, hc m1 H1 _ _ _ _ r1.1 r1.2, h1⟩
    · exact h1.elim
/-- a new instance -/
def xMake (c n np : Nat) (gL : List Vl → List Vl → List Vl) (nk : Nat) (mf : List Vl → Sto → Out Vl) (a : XB) : XE' := fun env S => (a env S).bind fun xz S1 => if xz.1.length = n ∧ xz.2.length = nk ∧ (gL (.ref S1.length :: xz.1) xz.2).length = np then
  (mf (gL (.ref S1.length :: xz.1) xz.2) (S1 ++ [.ins c []])).bind fun v S2 => match v with
    | .non => .ok (.ref S1.length) S2
    | _ => .bad
  else .bad
theorem se_make {c : Nat} (F : FnM N X.prog X.w X.K X.mg X.base CX k fA T ps mf) (M : Mk X.K (He.ga X.K (N.g c)) fA) (B : Bd N X.K T ps (n + 1) ks gL) (hr : Room (k + 1) X.A) (hg : Gl X x) (hm : X.mg x = some (.ref (He.ga X.K (N.g c)))) (hx : ∀ σ, PassesAt CX X σ (W σ)) (ha : SB N X W es kws pos ks f)
    (hdb : (x == ("__debug__" : Str)) = false := by decide) : SE N X W (.Call (.Name x p) es kws pos) (xMake c n ps.length gL ks.length mf f) := by
  obtain ⟨fd, hT, hk, F⟩ := F.ex
  obtain ⟨g, gV, hb, hc⟩ := B fd hT
  obtain ⟨tb, p1, s1⟩ := ha.ex
  refine ⟨fun σ H Q => tb σ H fun vz H1 => vz.1.length = n ∧ vz.2.length = ks.length ∧ ∀ x dx, H1 x = none → H1 dx = none → dx ≠ x → spM N X.K ps.length mf (gV (.ref x :: vz.1) vz.2) (upd (upd H1 dx (.own x)) x (.ins (He.ga X.K (N.g c)) dx [])) (fun v H2 => v = .non ∧ Q (.ref x) H2) (W σ),
    ⟨fun pins s σ H Q I h => ?_⟩, fun m S H env σ Q s er h => s1.step s er h fun xz S1 m1 H1 u e1 sr1 r1 er1 h1 => ?_⟩
  · refine wpAny_Call_Name_kw (ld_glob I hg hm ?_ hdb)
    exact p1.run _ [] pins s σ H _ _ M.kp I h fun us ws vs zs s' H' I' r rz q => run_makeG M F hr hb (hx σ) I' r rz q.1 q.2.1 q.2.2
  · split at h1
    · rename_i hl
      refine ⟨by rw [← r1.1.len]; exact hl.1, by rw [← r1.2.len]; exact hl.2.1, fun y dx hy hdx hn => ?_⟩
      have hS : Same H1 (upd (upd H1 dx (.own y)) y (.ins (He.ga X.K (N.g c)) dx [])) := fun b o hb => by
        rw [upd_ne (ne_of_none hb hy), upd_ne (ne_of_none hb hdx)]; exact hb
      have ex := Ext.app (K := X.K) (m := m1) (p := y) hS
      have sr2 := sr1.new (p := y) hS hy upd_same (.ins (c := c) (dx := dx) .nil)
      refine ⟨m1 ++ [y], S1 ++ [.ins c []], _, hl.2.2, sr2, hc _ _ _ _ _ _ (.cons sr1.ref_new (r1.1.mono ex)) (r1.2.mono ex), ?_⟩
      cases q : mf (gL (Vl.ref (List.length S1) :: xz.1) xz.2) (S1 ++ [Ob.ins c []]) with
      | ok v S2 =>
        rw [q] at h1
        cases v with
        | non => exact fun m' H' u' e' s' r' => ⟨by cases r'; rfl, (Post.mono ex h1).to e' s' ((sr1.ref_new (H' := H1)).mono (Ext.trans (Ext.refl (H := H1)) ⟨e'.pre, fun a xs h => e'.tup a xs (ex.tup a xs h), fun a xs h => e'.ktp a xs (ex.ktp a xs h), fun a xs h => e'.scr a xs (ex.scr a xs h), fun a o u h => e'.frz a o u (ex.frz a o u h)⟩))⟩
        | _ => exact h1.elim
      | err c' x' S2 =>
        rw [q] at h1
        exact Post.mono ex h1
      | bad =>
        rw [q] at h1
        exact h1.elim
    · exact h1.elim

/-! ### methods -/
structure MT where
  n : Nat
  np : Nat
  nk : Nat
  gL : List Vl → List Vl → List Vl
  mf : List Vl → Sto → Out Vl
def xMeth (tb : List (Nat × MT)) (o : XE') (a : XB) : XE' := fun env S => (o env S).bind fun ov S1 => match ov with
  | .ref i => match S1[i]? with
    | some (.ins c _) => match tb.lookup c with
      | some M => (a env S1).bind fun xz S2 => if xz.1.length = M.n ∧ xz.2.length = M.nk ∧ (M.gL (ov :: xz.1) xz.2).length = M.np then M.mf (M.gL (ov :: xz.1) xz.2) S2 else .bad
      | none => .bad
    | _ => .bad
  | _ => .bad
def MOk (N : Nms) (X : Cx) (W : L2.St → XK) (k : Nat) (md : Str) (ks : List Str) (c : Nat) (M : MT) : Prop := ∃ CX fA T ps, FnM N X.prog X.w X.K X.mg X.base CX k fA T ps M.mf ∧ Bd N X.K T ps (M.n + 1) ks M.gL ∧ Cls X.K (He.ga X.K (N.g c)) ∧ Meth X.K (He.ga X.K (N.g c)) md fA ∧ M.np = ps.length ∧ M.nk = ks.length ∧ ∀ σ, PassesAt CX X σ (W σ)
inductive MOks (N : Nms) (X : Cx) (W : L2.St → XK) (k : Nat) (md : Str) (ks : List Str) : List (Nat × MT) → Prop
  | nil : MOks N X W k md ks []
  | cons {c : Nat} {M : MT} {l : List (Nat × MT)} : MOk N X W k md ks c M → MOks N X W k md ks l → MOks N X W k md ks ((c, M) :: l)
theorem MOks.at_ {md : Str} {ks : List Str} : ∀ {l : List (Nat × MT)} {c : Nat} {M : MT}, MOks N X W k md ks l → l.lookup c = some M → MOk N X W k md ks c M
  | _, _, _, .nil, h => by cases h
  | (c', M') :: l, c, M, .cons h r, e => by
    rw [List.lookup_cons] at e
    cases q : c == c' with
    | true =>
      rw [q] at e
      cases e
      rw [eq_of_beq q]
      exact h
    | false =>
      rw [q] at e
      exact r.at_ e
theorem FR.look {K : PySem.W.Frag} {m : List Addr} {H : Hp} {k : Nat} : ∀ {fs : List (Nat × Vl)} {gs : List (Str × V)} {v : Vl}, FR N K m H fs gs → fs.lookup k = some v → ∃ u, gs.lookup (N.f k) = some u ∧ Vr N K m H v u
  | _, _, _, .nil, h => by cases h
  | (k', x) :: fs, _, v, .cons (u := u) (us := us) h r, e => by
    rw [List.lookup_cons] at e
    rw [List.lookup_cons]
    cases q : k == k' with
    | true =>
      rw [q] at e
      cases e
      have q' : (N.f k == N.f k') = true := by rw [eq_of_beq q]; exact beq_self_eq_true _
      rw [q']
      exact ⟨u, rfl, h⟩
    | false =>
      rw [q] at e
      have q' : (N.f k == N.f k') = false := beq_eq_false_iff_ne.mpr fun z => by
        have := N.fi _ _ z
        rw [this] at q
        rw [beq_self_eq_true] at q
        cases q
      rw [q']
      exact FR.look r e
theorem FR.none {K : PySem.W.Frag} {m : List Addr} {H : Hp} {md : Str} (hm : ∀ k, N.f k ≠ md) : ∀ {fs : List (Nat × Vl)} {gs : List (Str × V)}, FR N K m H fs gs → gs.lookup md = none
  | _, _, .nil => rfl
  | (k', x) :: fs, _, .cons h r => by
    rw [List.lookup_cons]
    have q' : (md == N.f k') = false := beq_eq_false_iff_ne.mpr fun z => hm k' z.symm
    rw [q']
    exact FR.none hm r
theorem se_meth {tb : List (Nat × MT)} {pl : Sem Bool} (hM : MOks N X W k md ks tb) (hmd : ∀ i, N.f i ≠ md) (hr : Room k X.A) (ho : SE N X W o fa) (ha : SB N X W es kws pos ks f)
    (ht : eval (.Call (.Attribute o md apos) es kws pos) X.env = (do
      let ov ← eval o X.env
      standAt apos.atName
      let (f, first) ← holding [ov] (getMethod ov md pl)
      callWith pos f first (backTo pos (starEach es X.env)) (backToKw pos (keywordEach kws X.env))) := by rfl) :
    SE N X W (.Call (.Attribute o md apos) es kws pos) (xMeth tb fa f) := by
  obtain ⟨to, p0, s0⟩ := ho.ex
  obtain ⟨tb', p1, s1⟩ := ha.ex
  refine ⟨fun σ H Q => to σ H fun xv H1 => ∃ (a dx : Addr) (c : Nat) (gs : List (Str × V)) (M : MT), xv = .ref a ∧ H1 a = some (.ins (He.ga X.K (N.g c)) dx gs) ∧ gs.lookup md = none ∧ tb.lookup c = some M ∧
    ∃ (CX : CXT) (fA : Addr) (fd : FuncData) (ps : List Str) (g : List Value → List Value → List Value) (gV : List V → List V → List V), FnOk X.prog X.w X.K X.mg X.base CX k fA fd ps (spM N X.K M.np M.mf) ∧ KBn X.K fd ps (M.n + 1) ks g gV ∧ Cls X.K (He.ga X.K (N.g c)) ∧ Meth X.K (He.ga X.K (N.g c)) md fA ∧ (∀ σ, PassesAt CX X σ (W σ)) ∧
    tb' σ H1 fun vz H2 => vz.1.length = M.n ∧ vz.2.length = ks.length ∧ spM N X.K M.np M.mf (gV (xv :: vz.1) vz.2) H2 Q (W σ), ⟨fun pins s σ H Q I h => ?_⟩, fun m S H env σ Q s er h => s0.step s er h fun ov S1 m1 H1 u e1 sr1 r1 er1 h1 => ?_⟩
  · refine PySem.W.methodCall_KW (pl := pl) (thn (p0.run pins s σ H _ I h) fun u s1 ⟨xv, H1, I1, rx, a, dx, c, gs, M, ex, ea, l, hl, CX, fA, fd, ps, g, gV, F, hb, hC, hMe, hx, q⟩ => ?_) ht
    subst ex
    obtain rfl : u = Value.ref a := rx
    refine getmeth_ok I1 ea hC hMe l ?_
    exact p1.run _ [.ref a] pins s1 σ H1 _ _ hMe.kp I1 q fun us ws vs zs s' H' I' r rz q => run_fnG (us := .ref a :: us) (vs := .ref a :: vs) F hr hb (hx σ) I' (.cons rfl r) rz (by rw [List.length_cons, q.1]) q.2.1 q.2.2
  · split at h1
    · rename_i i
      split at h1
      · rename_i c fs hS
        split at h1
        · rename_i M hl
          obtain ⟨a, rfl, hma⟩ := r1.ref'
          obtain ⟨dx, gs, hH, hf⟩ := sr1.ins hma hS
          obtain ⟨CX, fA, T, ps, F, B, hC, hMe, e1', e2', hx⟩ := hM.at_ hl
          obtain ⟨fd, hT, hk, F⟩ := F.ex
          obtain ⟨g, gV, hb, hc⟩ := B fd hT
          refine ⟨a, dx, c, gs, M, rfl, hH, hf.none hmd, hl, CX, fA, fd, ps, g, gV, by rw [e1']; exact F, hb, hC, hMe, hx, ?_⟩
          refine s1.step sr1 er1 h1 fun xz S2 m2 H2 u2 e2 sr2 r2 er2 h2 => ?_
          split at h2
          · rename_i hl2
            exact ⟨by rw [← r2.1.len]; exact hl2.1, by rw [← r2.2.len, hl2.2.1, e2'], m2, S2, _, hl2.2.2, sr2, hc m2 H2 _ _ _ _ (.cons (r1.mono e2) r2.1) r2.2, h2⟩
          · exact h2.elim
        · exact h1.elim
      · exact h1.elim
    · exact h1.elim
/-! ### fields -/
def xFld (k : Nat) (cs : List Nat) (o : XE') : XE' := fun env S => (o env S).bind fun ov S1 => match ov with
  | .ref i => match S1[i]? with
    | some (.ins c fs) => if cs.contains c = true then match fs.lookup k with
      | some v => .ok v S1
      | none => .bad
      else .bad
    | _ => .bad
  | _ => .bad
/-- the classes cs have the field f -/
inductive FOk (N : Nms) (K : PySem.W.Frag) (f : Str) : List Nat → Prop
  | nil : FOk N K f []
  | cons {c : Nat} {l : List Nat} : Cls K (He.ga K (N.g c)) → NoAttr K (He.ga K (N.g c)) f → FOk N K f l → FOk N K f (c :: l)
theorem FOk.at_ {K : PySem.W.Frag} {fl : Str} : ∀ {l : List Nat} {c : Nat}, FOk N K fl l → l.contains c = true → Cls K (He.ga K (N.g c)) ∧ NoAttr K (He.ga K (N.g c)) fl
  | _, _, .nil, h => by cases h
  | c' :: l, c, .cons h1 h2 r, e => by
    rw [List.contains_cons, Bool.or_eq_true] at e
    rcases e with e | e
    · rw [eq_of_beq e]; exact ⟨h1, h2⟩
    · exact r.at_ e
theorem se_fld (k : Nat) {cs : List Nat} (hF : FOk N X.K (N.f k) cs) (he : SE N X W o fa) (hb : attributeBase o (N.f k) X.env (eval o X.env) = eval o X.env := by rfl) : SE N X W (.Attribute o (N.f k) pos) (xFld k cs fa) := by
  obtain ⟨to, p0, s0⟩ := he.ex
  refine ⟨_, pe_fld p0 hb, fun m S H env σ Q s er h => s0.step s er h fun ov S1 m1 H1 u e1 sr1 r1 er1 h1 => ?_⟩
  split at h1
  · split at h1
    · rename_i c fs hS
      split at h1
      · rename_i hc
        split at h1
        · rename_i v hv
          obtain ⟨a, rfl, hma⟩ := r1.ref'
          obtain ⟨dx, gs, hH, hf⟩ := sr1.ins hma hS
          obtain ⟨u', h2, h3⟩ := hf.look hv
          obtain ⟨c1, c2⟩ := hF.at_ hc
          exact ⟨a, _, dx, gs, u', rfl, hH, c1, c2, h2, h1.ok sr1 h3⟩
        · exact h1.elim
      · exact h1.elim
    · exact h1.elim
  · exact h1.elim
/-! ### a def in a slot -/
def xCallV (tb : List (Nat × MT)) (i : Nat) (a : XB) : XE' := fun env S => match env[i]? with
  | some (some (.fn q)) => match tb.lookup q with
    | some M => (a env S).bind fun xz S2 => if xz.1.length = M.n ∧ xz.2.length = M.nk ∧ (M.gL xz.1 xz.2).length = M.np then M.mf (M.gL xz.1 xz.2) S2 else .bad
    | none => .bad
  | _ => .bad
def VOk (N : Nms) (X : Cx) (W : L2.St → XK) (k : Nat) (ks : List Str) (q : Nat) (M : MT) : Prop := ∃ CX T ps, FnM N X.prog X.w X.K X.mg X.base CX k (He.ga X.K (N.g q)) T ps M.mf ∧ Bd N X.K T ps M.n ks M.gL ∧ M.np = ps.length ∧ M.nk = ks.length ∧ ∀ σ, PassesAt CX X σ (W σ)
inductive VOks (N : Nms) (X : Cx) (W : L2.St → XK) (k : Nat) (ks : List Str) : List (Nat × MT) → Prop
  | nil : VOks N X W k ks []
  | cons {c : Nat} {M : MT} {l : List (Nat × MT)} : VOk N X W k ks c M → VOks N X W k ks l → VOks N X W k ks ((c, M) :: l)
theorem VOks.at_ {ks : List Str} : ∀ {l : List (Nat × MT)} {c : Nat} {M : MT}, VOks N X W k ks l → l.lookup c = some M → VOk N X W k ks c M
  | _, _, _, .nil, h => by cases h
  | (c', M') :: l, c, M, .cons h r, e => by
    rw [List.lookup_cons] at e
    cases q : c == c' with
    | true =>
      rw [q] at e
      cases e
      rw [eq_of_beq q]
      exact h
    | false =>
      rw [q] at e
      exact r.at_ e
theorem se_callV {i : Nat} {tb : List (Nat × MT)} (hM : VOks N X W k ks tb) (hr : Room k X.A) (hN : X.N[i]? = some x) (hv : Vis X.env.scope x) (ha : SB N X W es kws pos ks f) (hdb : (x == ("__debug__" : Str)) = false := by decide) (hcd : (x == ("__classdict__" : Str)) = false := by decide) :
    SE N X W (.Call (.Name x p) es kws pos) (xCallV tb i f) := by
  obtain ⟨tb', p1, s1⟩ := ha.ex
  refine ⟨fun σ H Q => ∃ (q : Nat) (M : MT), σ[i]? = some (some (.ref (He.ga X.K (N.g q)))) ∧ tb.lookup q = some M ∧
    ∃ (CX : CXT) (fd : FuncData) (ps : List Str) (g : List Value → List Value → List Value) (gV : List V → List V → List V), PySem.W.keepIn X.K (.ref (He.ga X.K (N.g q))) = true ∧ FnOk X.prog X.w X.K X.mg X.base CX k (He.ga X.K (N.g q)) fd ps (spM N X.K M.np M.mf) ∧ KBn X.K fd ps M.n ks g gV ∧ (∀ σ, PassesAt CX X σ (W σ)) ∧
    tb' σ H fun vz H2 => vz.1.length = M.n ∧ vz.2.length = ks.length ∧ spM N X.K M.np M.mf (gV vz.1 vz.2) H2 Q (W σ), ⟨fun pins s σ H Q I h => ?_⟩, fun m S H env σ Q s er h => ?_⟩
  · obtain ⟨q, M, hs, hl, CX, fd, ps, g, gV, hk, F, hb, hx, ht⟩ := h
    refine wpAny_Call_Name_kw (thn ((pe_var (pos := p) hN hv hdb hcd).run pins s σ H (fun v H1 => v = .ref (He.ga X.K (N.g q)) ∧ H1 = H) I ⟨_, hs, rfl, rfl⟩) fun u s1 ⟨v, H1, I1, r1, q1⟩ => ?_)
    obtain ⟨rfl, rfl⟩ := q1
    cases r1
    exact p1.run _ [] pins s1 σ _ _ _ hk I1 ht fun us ws vs zs s' H' I' r rz q => run_fnG F hr hb (hx σ) I' r rz q.1 q.2.1 q.2.2
  · unfold xCallV at h
    split at h
    · rename_i q hq
      split at h
      · rename_i M hl
        obtain ⟨u, h1, h2⟩ := er.at_ _ _ hq
        cases h2.fn'
        obtain ⟨CX, T, ps, F, B, e1', e2', hx⟩ := hM.at_ hl
        obtain ⟨fd, hT, hk, F⟩ := F.ex
        obtain ⟨g, gV, hb, hc⟩ := B fd hT
        refine ⟨q, M, h1, hl, CX, fd, ps, g, gV, hk, by rw [e1']; exact F, hb, hx, ?_⟩
        refine s1.step s er h fun xz S2 m2 H2 u2 e2 sr2 r2 er2 h2 => ?_
        split at h2
        · rename_i hl2
          exact ⟨by rw [← r2.1.len]; exact hl2.1, by rw [← r2.2.len, hl2.2.1, e2'], m2, S2, _, hl2.2.2, sr2, hc m2 H2 _ _ _ _ r2.1 r2.2, h2⟩
        · exact h2.elim
      · exact h.elim
    · exact h.elim
end
end Nt

namespace Nt
open PySem PySem.Spec PyProof.Rows L2 Evl
/-! ### statements -/
inductive Fl where
  | nx (e : En) | rt (v : Vl) | bk (e : En) | ct (e : En) | er (c : Nat) (x : Option Nat) (e : En)
abbrev ZS := En → Sto → Out Fl
def PostS (N : Nms) (K : PySem.W.Frag) (m : List Addr) (H : Hp) (D : Ends) (W : L2.St → XK) : Out Fl → Prop
  | .ok (.nx e) S' => ∀ m' H' σ', Ext K m H m' H' → SR N K m' S' H' → EnR N K m' H' e σ' → D.nx σ' H'
  | .ok (.bk e) S' => ∀ m' H' σ', Ext K m H m' H' → SR N K m' S' H' → EnR N K m' H' e σ' → D.bk σ' H'
  | .ok (.ct e) S' => ∀ m' H' σ', Ext K m H m' H' → SR N K m' S' H' → EnR N K m' H' e σ' → D.ct σ' H'
  | .ok (.rt v) S' => ∀ m' H' u, Ext K m H m' H' → SR N K m' S' H' → Vr N K m' H' v u → D.rt u H'
  | .ok (.er c x e) S' => ∀ m' H' d σ', Ext K m H m' H' → SR N K m' S' H' → EnR N K m' H' e σ' → XD m' x d → W σ' (.ref (He.ga K (N.g c))) d H'
  | .err _ _ _ => False
  | .bad => False
def SimS (N : Nms) (K : PySem.W.Frag) (W : L2.St → XK) (t : TS) (f : ZS) : Prop := ∀ m S H env σ D, SR N K m S H → EnR N K m H env σ → PostS N K m H D W (f env S) → t D σ H
structure SS (N : Nms) (X : Cx) (W : L2.St → XK) (st : Stmt) (f : ZS) : Prop where
  ex : ∃ t, PS X st t ∧ SimS N X.K W t f
structure SSs (N : Nms) (X : Cx) (W : L2.St → XK) (st : List Stmt) (f : ZS) : Prop where
  ex : ∃ t, PSs X st t ∧ SimS N X.K W t f
def Out.bindS {α : Type} (o : Out α) (env : En) (f : α → Sto → Out Fl) : Out Fl := match o with
  | .ok a S => f a S
  | .err c x S => .ok (.er c x env) S
  | .bad => .bad
@[simp] theorem Out.bindS_ok {α : Type} {a : α} {S : Sto} {env : En} {f : α → Sto → Out Fl} : (Out.ok a S).bindS env f = f a S := rfl
@[simp] theorem Out.bindS_err {α : Type} {c : Nat} {x : Option Nat} {S : Sto} {env : En} {f : α → Sto → Out Fl} : (Out.err c x S : Out α).bindS env f = .ok (.er c x env) S := rfl
@[simp] theorem Out.bindS_bad {α : Type} {env : En} {f : α → Sto → Out Fl} : (Out.bad : Out α).bindS env f = .bad := rfl
section
variable {α β : Type} {N : Nms} {K : PySem.W.Frag} {R : List Addr → Hp → α → β → Prop} {m m1 : List Addr} {H H1 : Hp} {Q : β → Hp → Prop} {W : L2.St → XK} {D : Ends}
theorem PostS.mono {o : Out Fl} (e : Ext K m H m1 H1) (h : PostS N K m H D W o) : PostS N K m1 H1 D W o := by
  cases o with
  | ok v S =>
    cases v with
    | er c x e2 => exact fun m' H' d σ' e' => h m' H' d σ' (e.trans e')
    | nx _ => exact fun m' H' u e' => h m' H' u (e.trans e')
    | rt _ => exact fun m' H' u e' => h m' H' u (e.trans e')
    | bk _ => exact fun m' H' u e' => h m' H' u (e.trans e')
    | ct _ => exact fun m' H' u e' => h m' H' u (e.trans e')
  | err c x S => exact h
  | bad => exact h
theorem Sim.stepS {t : L2.St → Hp → (β → Hp → Prop) → Prop} {f : En → Sto → Out α} {g : α → Sto → Out Fl} {S : Sto} {env : En} {σ : L2.St} (h : Sim N K R W t f) (s : SR N K m S H) (er : EnR N K m H env σ) (hp : PostS N K m H D W ((f env S).bindS env g))
    (k : ∀ a S1 m1 H1 u, Ext K m H m1 H1 → SR N K m1 S1 H1 → R m1 H1 a u → EnR N K m1 H1 env σ → PostS N K m1 H1 D W (g a S1) → Q u H1) : t σ H Q := by
  refine h m S H env σ Q s er ?_
  cases q : f env S with
  | ok v S1 =>
    rw [q] at hp
    exact fun m' H' u e s' r => k v S1 m' H' u e s' r (er.mono e) (PostS.mono e hp)
  | err c x S1 =>
    rw [q] at hp
    exact fun m' H' d e s' x' => hp m' H' d σ e s' (er.mono e) x'
  | bad =>
    rw [q] at hp
    exact hp
/-- what is wished changes only behind the block -/
theorem PostS.seq {D' : Ends} {o : Out Fl} {g : ZS} (h : PostS N K m H D W (match o with | .ok (.nx e) S => g e S | o => o)) (hn : ∀ e S m' H' σ', o = .ok (.nx e) S → Ext K m H m' H' → SR N K m' S H' → EnR N K m' H' e σ' → PostS N K m' H' D W (g e S) → D'.nx σ' H')
    (e1 : D'.rt = D.rt) (e2 : D'.bk = D.bk) (e3 : D'.ct = D.ct) : PostS N K m H D' W o := by
  cases o with
  | ok v S =>
    cases v with
    | nx e => exact fun m' H' σ' e' s' r' => hn e S m' H' σ' rfl e' s' r' (PostS.mono e' h)
    | rt v => exact fun m' H' u e' s' r' => by rw [e1]; exact h m' H' u e' s' r'
    | bk e => exact fun m' H' u e' s' r' => by rw [e2]; exact h m' H' u e' s' r'
    | ct e => exact fun m' H' u e' s' r' => by rw [e3]; exact h m' H' u e' s' r'
    | er c x e => exact h
  | err c x S => exact h
  | bad => exact h
end
def zNil : ZS := fun env S => .ok (.nx env) S
def zSeq (f g : ZS) : ZS := fun env S => match f env S with
  | .ok (.nx e) S' => g e S'
  | o => o
def zDrop (a : XE') : ZS := fun env S => (a env S).bindS env fun _ S1 => .ok (.nx env) S1
def zRet (a : XE') : ZS := fun env S => (a env S).bindS env fun v S1 => .ok (.rt v) S1
def zIf (t : XT) (f g : ZS) : ZS := fun env S => (t env S).bindS env fun b S1 => if b = true then f env S1 else g env S1
def zBrk : ZS := fun env S => .ok (.bk env) S
def zCnt : ZS := fun env S => .ok (.ct env) S
abbrev GM := Vl → En → Sto → Out En
def zAsg (a : XE') (g : GM) : ZS := fun env S => (a env S).bindS env fun v S1 => (g v env S1).bindS env fun e S2 => .ok (.nx e) S2
/-- a target -/
def SimG (N : Nms) (K : PySem.W.Frag) (W : L2.St → XK) (t : TG) (g : GM) : Prop := ∀ m S H env σ v u Q, SR N K m S H → EnR N K m H env σ → Vr N K m H v u → Post N K (EnR N K) m H Q (W σ) (g v env S) → t u σ H Q
structure SG (N : Nms) (X : Cx) (W : L2.St → XK) (tg : Expr) (g : GM) : Prop where
  ex : ∃ t, PG X tg t ∧ SimG N X.K W t g
abbrev GMs := List Vl → En → Sto → Out En
def SimGs (N : Nms) (K : PySem.W.Frag) (W : L2.St → XK) (t : TGs) (g : GMs) : Prop := ∀ m S H env σ vs us Q, SR N K m S H → EnR N K m H env σ → Vrs N K m H vs us → Post N K (EnR N K) m H Q (W σ) (g vs env S) → t us σ H Q
structure SGs (N : Nms) (X : Cx) (W : L2.St → XK) (tg : List Expr) (g : GMs) : Prop where
  ex : ∃ t, PGs X tg t ∧ SimGs N X.K W t g
section
variable {N : Nms} {X : Cx} {W : L2.St → XK} {e a b c : Expr} {st : Stmt} {rest body orelse : List Stmt} {es : List Expr} {fa fb : XE'} {f g : ZS} {ft : XT} {pos p pos' : Pos} {x : Str}
theorem sss_nil : SSs N X W [] zNil := ⟨_, pss_nil, fun m S H env σ D s er h => h m H σ Ext.refl s er⟩
theorem sss_cons (h1 : SS N X W st f) (h2 : SSs N X W rest g) : SSs N X W (st :: rest) (zSeq f g) := by
  obtain ⟨t1, p1, s1⟩ := h1.ex
  obtain ⟨t2, p2, s2⟩ := h2.ex
  exact ⟨_, pss_cons p1 p2, fun m S H env σ D s er h => s1 m S H env σ _ s er (PostS.seq (D := D) h (fun e S' m' H' σ' _ e' s' r' hp => s2 m' S' H' e σ' D s' r' hp) rfl rfl rfl)⟩
theorem ss_expr (h : SE N X W e fa) (hs : swapsWith e none pos.line X.env = pure false := by rfl) : SS N X W (.Expr e pos) (zDrop fa) := by
  obtain ⟨t1, p1, s1⟩ := h.ex
  exact ⟨_, ps_expr p1 hs, fun m S H env σ D s er h => s1.stepS s er h fun v S1 m1 H1 u e1 sr1 r1 er1 h1 => h1 m1 H1 σ Ext.refl sr1 er1⟩
theorem ss_ret (h : SE N X W e fa) : SS N X W (.Return (some e) pos) (zRet fa) := by
  obtain ⟨t1, p1, s1⟩ := h.ex
  exact ⟨_, ps_ret p1, fun m S H env σ D s er h => s1.stepS s er h fun v S1 m1 H1 u e1 sr1 r1 er1 h1 => h1 m1 H1 u Ext.refl sr1 r1⟩
theorem ss_if (hc : ST N X W c ft) (h1 : SSs N X W body f) (h2 : SSs N X W orelse g) : SS N X W (.If c body orelse pos) (zIf ft f g) := by
  obtain ⟨t0, p0, s0⟩ := hc.ex
  obtain ⟨t1, p1, s1⟩ := h1.ex
  obtain ⟨t2, p2, s2⟩ := h2.ex
  refine ⟨_, ps_if p0 p1 p2, fun m S H env σ D s er h => s0.stepS s er h fun v S1 m1 H1 u e1 sr1 r1 er1 h1 => ?_⟩
  cases r1
  cases v with
  | true => exact s1 m1 S1 H1 env σ D sr1 er1 h1
  | false => exact s2 m1 S1 H1 env σ D sr1 er1 h1
theorem ss_pass : SS N X W (.Pass pos) zNil := ⟨_, ps_pass, fun m S H env σ D s er h => h m H σ Ext.refl s er⟩
theorem ss_break : SS N X W (.Break pos) zBrk := ⟨_, ps_break, fun m S H env σ D s er h => h m H σ Ext.refl s er⟩
theorem ss_continue : SS N X W (.Continue pos) zCnt := ⟨_, ps_continue, fun m S H env σ D s er h => h m H σ Ext.refl s er⟩
theorem SSs.nox (h : SSs N X.nox W body f) : SSs N X W body f := by
  obtain ⟨t, p, s⟩ := h.ex
  exact ⟨t, PSs.nox p, s⟩
/-! targets -/
def gmName (i : Nat) : GM := fun v env S => .ok (env.set i (some v)) S
theorem sg_name {i : Nat} (hN : X.N.Nodup) (hi : X.N[i]? = some x) (hx : Loc X.env.scope x) (hf : X.fn x = true ∨ X.env.scope.names.lookup x = some .local := by first | exact .inl rfl | exact .inr rfl | assumption) (hfr : N.fr i := by first | exact Nms.fr0 rfl | exact Nms.frh rfl) : SG N X W (.Name x pos) (gmName i) :=
  ⟨_, pg_name hN hi hx hf, fun m S H env σ v u Q s er r h => h.ok s (er.set hfr r)⟩
theorem ss_asg {tg : Expr} {gm : GM} (he : SE N X W e fa) (hg : SG N X W tg gm) (hs : swapsWithSole [tg] e pos.line X.env = pure false := by rfl) (hw : swappedStores [tg] e X.env = pure none := by rfl)
    (h1 : (assignEach [tg] X.env).map (·.2) = [assign tg X.env] := by rfl) : SS N X W (.Assign [tg] e pos) (zAsg fa gm) := by
  obtain ⟨t1, p1, s1⟩ := he.ex
  obtain ⟨t2, p2, s2⟩ := hg.ex
  refine ⟨_, ps_asg p1 p2 hs hw h1, fun m S H env σ D s er h => s1.stepS s er h fun v S1 m1 H1 u e1 sr1 r1 er1 h1 => ?_⟩
  refine s2 m1 S1 H1 env σ v u _ sr1 er1 r1 ?_
  cases q : gm v env S1 with
  | ok e2 S2 => rw [q] at h1; exact h1
  | err c' x' S2 => rw [q] at h1; exact fun m' H' d e' s' x' => h1 m' H' d σ e' s' (er1.mono e') x'
  | bad => rw [q] at h1; exact h1
theorem ss_set {i : Nat} (hN : X.N.Nodup) (hi : X.N[i]? = some x) (hx : Loc X.env.scope x) (he : SE N X W e fa) (hs : swapsWith e (some (.Name x pos')) pos.line X.env = pure false := by rfl) (hf : X.fn x = true ∨ X.env.scope.names.lookup x = some .local := by first | exact .inl rfl | exact .inr rfl | assumption) (hfr : N.fr i := by first | exact Nms.fr0 rfl | exact Nms.frh rfl) :
    SS N X W (.Assign [.Name x pos'] e pos) (zAsg fa (gmName i)) := by
  obtain ⟨t1, p1, s1⟩ := he.ex
  exact ⟨_, ps_set hN hi hx p1 hs hf, fun m S H env σ D s er h => s1.stepS s er h fun v S1 m1 H1 u e1 sr1 r1 er1 h1 => h1 m1 H1 _ Ext.refl sr1 (er1.set hfr r1)⟩
def gmsNil : GMs := fun vs env S => match vs with
  | [] => .ok env S
  | _ => .bad
def gmsCons (g : GM) (r : GMs) : GMs := fun vs env S => match vs with
  | v :: vs => (g v env S).bind fun e S1 => r vs e S1
  | _ => .bad
theorem sgs_nil : SGs N X W [] gmsNil := ⟨_, pgs_nil, fun m S H env σ vs us Q s er r h => by
  cases r with
  | nil => exact ⟨rfl, h.ok s er⟩
  | cons _ _ => exact h.elim⟩
/-- the targets store to names alone, so that what is raised is raised at the same slots -/
theorem sgs_cons {gm : GM} {gms : GMs} (h1 : SG N X W e gm) (h2 : SGs N X W es gms) (hW : ∀ σ σ', W σ = W σ' := by exact fun _ _ => rfl)
    (hs : (assignEach (e :: es) X.env).map (·.2) = assign e X.env :: (assignEach es X.env).map (·.2) := by rfl) : SGs N X W (e :: es) (gmsCons gm gms) := by
  obtain ⟨t1, p1, s1⟩ := h1.ex
  obtain ⟨t2, p2, s2⟩ := h2.ex
  refine ⟨_, pgs_cons p1 p2 hs, fun m S H env σ vs us Q s er r h => ?_⟩
  cases r with
  | nil => exact h.elim
  | cons r0 rr =>
    rename_i v u vs us
    refine ⟨_, _, rfl, s1 m S H env σ v u _ s er r0 ?_⟩
    have h' : Post N X.K (EnR N X.K) m H Q (W σ) ((gm v env S).bind fun e S1 => gms vs e S1) := h
    cases q : gm v env S with
    | ok e2 S2 =>
      rw [q] at h'
      exact fun m' H' σ' e' s' r' => s2 m' S2 H' e2 σ' vs us Q s' r' (rr.mono e') (by rw [hW σ' σ]; exact Post.mono e' h')
    | err c' x' S2 => rw [q] at h'; exact h'
    | bad => rw [q] at h'; exact h'
/-- a, b, .. = a tuple or a list -/
def gmTup (n : Nat) (g : GMs) : GM := fun v env S => match v with
  | .tup xs => if xs.length = n then g xs env S else .bad
  | .ktp xs => if xs.length = n then g xs env S else .bad
  | .ref i => match S[i]? with
    | some (.lst xs) => if xs.length = n then g xs env S else .bad
    | _ => .bad
  | _ => .bad
theorem pg_or {tg : Expr} {t u : TG} (h1 : PG X tg t) (h2 : PG X tg u) : PG X tg (fun v σ H Q => t v σ H Q ∨ u v σ H Q) := ⟨fun pins s σ H v w Q I r h => by
  rcases h with h | h
  · exact h1.run pins s σ H v w Q I r h
  · exact h2.run pins s σ H v w Q I r h⟩
theorem sg_tup {k n : Nat} {gms : GMs} (hc : X.calm = true) (h : SGs N X W es gms) (hn : (assignEach es X.env).length = n := by rfl) (hst : (assignEach es X.env).findIdx? (·.1) = none := by rfl) : SG N X W (.Tuple es k pos) (gmTup n gms) := by
  obtain ⟨t1, p1, s1⟩ := h.ex
  refine ⟨_, pg_or (pg_tup hc p1 hn hst) (pg_unl hc p1 hn hst), fun m S H env σ v u Q s er r h => ?_⟩
  unfold gmTup at h
  split at h
  · split at h
    · rename_i hl
      obtain ⟨a, ys, rfl, h1, h2⟩ := r.asT rfl
      exact .inl ⟨a, ys, rfl, h1, by rw [← h2.len]; exact hl, s1 m S H env σ _ ys Q s er h2 h⟩
    · exact h.elim
  · split at h
    · rename_i hl
      obtain ⟨a, ys, rfl, h1, h2⟩ := r.asT rfl
      exact .inl ⟨a, ys, rfl, h1, by rw [← h2.len]; exact hl, s1 m S H env σ _ ys Q s er h2 h⟩
    · exact h.elim
  · split at h
    · rename_i hS
      split at h
      · rename_i hl
        obtain ⟨a, rfl, hm⟩ := r.ref'
        obtain ⟨ys, h1, h2⟩ := s.lst hm hS
        exact .inr ⟨a, ys, rfl, sq_of h1, by rw [← h2.len]; exact hl, s1 m S H env σ _ ys Q s er h2 h⟩
      · exact h.elim
    · exact h.elim
  · exact h.elim
/-- x, *rest = a tuple -/
def gmStar1 (g1 g2 : GM) : GM := fun v env S => match asTup v with
  | some (x :: xs) => (g1 x env (S ++ [.lst xs])).bind fun e S1 => g2 (.ref S.length) e S1
  | _ => .bad
theorem sg_star1 {k : Nat} {e1 e2 : Expr} {sp : Pos} {g1 g2 : GM} (hc : X.calm = true) (h1 : SG N X W e1 g1) (h2 : SG N X W e2 g2) (hW : ∀ σ σ', W σ = W σ' := by exact fun _ _ => rfl)
    (hlen : (assignEach [e1, .Starred e2 sp] X.env).length = 2 := by rfl) (hstar : (assignEach [e1, .Starred e2 sp] X.env).findIdx? (·.1) = some 1 := by rfl) (hs : (assignEach [.Starred e2 sp] X.env).map (·.2) = [assign e2 X.env] := by rfl)
    (hs2 : (assignEach [e1, .Starred e2 sp] X.env).map (·.2) = assign e1 X.env :: (assignEach [.Starred e2 sp] X.env).map (·.2) := by rfl) : SG N X W (.Tuple [e1, .Starred e2 sp] k pos) (gmStar1 g1 g2) := by
  obtain ⟨t1, p1, s1⟩ := h1.ex
  obtain ⟨t2, p2, s2⟩ := h2.ex
  refine ⟨_, pg_star (n := 2) (i := 1) hc (pgs_cons p1 (pgs_star p2 hs) hs2) hlen hstar, fun m S H env σ v u Q s er r h => ?_⟩
  unfold gmStar1 at h
  split at h
  · rename_i x xs hv
    obtain ⟨a, ys, rfl, ht, rs⟩ := r.asT hv
    obtain ⟨y, zs, rfl, rx, rxs⟩ := rs.cons'
    refine ⟨a, y :: zs, rfl, ht, by rw [List.length_cons]; omega, by decide, fun q hq => ?_⟩
    have e0 : (y :: zs).length + 1 - 2 = zs.length := by rw [List.length_cons]; omega
    have e1' : ((y :: zs).drop 1).take ((y :: zs).length + 1 - 2) = zs := by rw [e0]; exact List.take_length
    have e2' : (y :: zs).take 1 ++ [V.ref q] ++ ((y :: zs).drop 1).drop ((y :: zs).length + 1 - 2) = [y, .ref q] := by
      rw [e0]
      show [y] ++ [V.ref q] ++ zs.drop zs.length = _
      rw [List.drop_length]
      rfl
    rw [e1', e2']
    have ex : Ext X.K m H (m ++ [q]) (upd H q (.lst zs)) := Ext.app (Same.new hq)
    have sr := s.new (Same.new hq) hq upd_same (.lst rxs)
    have h' := Post.mono ex h
    refine ⟨_, _, rfl, s1 _ _ _ env σ x y _ sr (er.mono ex) (rx.mono ex) ?_⟩
    cases qq : g1 x env (S ++ [.lst xs]) with
    | ok e3 S3 =>
      rw [qq] at h'
      refine fun m' H' σ' e' s' r' => ⟨_, _, rfl, s2 m' S3 H' e3 σ' (.ref S.length) (.ref q) _ s' r' ((s.ref_new (p := q) (H' := upd H q (.lst zs))).mono e') ?_⟩
      rw [hW σ' σ]
      have h3 : Post N X.K (EnR N X.K) m' H' Q (W σ) (g2 (.ref S.length) e3 S3) := Post.mono e' h'
      cases q3 : g2 (.ref S.length) e3 S3 with
      | ok e4 S4 => rw [q3] at h3; exact fun m'' H'' σ'' e'' s'' r'' => ⟨rfl, h3 m'' H'' σ'' e'' s'' r''⟩
      | err c4 x4 S4 => rw [q3] at h3; exact h3
      | bad => rw [q3] at h3; exact h3
    | err c' x' S2 => rw [qq] at h'; exact h'
    | bad => rw [qq] at h'; exact h'
  · exact h.elim
/-- o[i] = v, by values -/
def SetS (N : Nms) (K : PySem.W.Frag) (t : TSet) (g : Vl → Vl → Vl → Sto → Out Unit) : Prop := ∀ m S H o i v ou iu vu (Q : Hp → Prop) E, SR N K m S H → Vr N K m H o ou → Vr N K m H i iu → Vr N K m H v vu → Post N K (fun _ _ (_ : Unit) (_ : Unit) => True) m H (fun _ H' => Q H') E (g o i v S) → t ou iu vu H Q
structure SetM (N : Nms) (X : Cx) (g : Vl → Vl → Vl → Sto → Out Unit) : Prop where
  ex : ∃ t, PSet X t ∧ SetS N X.K t g
def gmSub (o i : XE') (g : Vl → Vl → Vl → Sto → Out Unit) : GM := fun v env S => (o env S).bind fun ov S1 => (i env S1).bind fun iv S2 => (g ov iv v S2).bind fun _ S3 => .ok env S3
theorem sg_sub {o i : Expr} {fo fi : XE'} {gs : Vl → Vl → Vl → Sto → Out Unit} (hs : SetM N X gs) (ho : SE N X W o fo) (hi : SE N X W i fi)
    (ha : ∀ v, assign (.Subscript o i pos) X.env v = (do
      let ov ← holding [v] (eval o X.env)
      let iv ← holding [v, ov] (eval i X.env)
      standAt pos
      holding [v, ov, iv] (setItem ov iv v)
      release [v, ov, iv] []) := by intro _; rfl) : SG N X W (.Subscript o i pos) (gmSub fo fi gs) := by
  obtain ⟨t0, p0, s0⟩ := hs.ex
  obtain ⟨t1, p1, s1⟩ := ho.ex
  obtain ⟨t2, p2, s2⟩ := hi.ex
  refine ⟨_, pg_sub p1 p2 p0 ha, fun m S H env σ v u Q s er r h => ?_⟩
  refine s1.step s er h fun ov S1 m1 H1 ou e1 sr1 r1 er1 h1 => ?_
  refine s2.step sr1 er1 h1 fun iv S2 m2 H2 iu e2 sr2 r2 er2 h2 => ?_
  refine s0 m2 S2 H2 ov iv v ou iu u _ (W σ) sr2 (r1.mono e2) r2 (r.mono (e1.trans e2)) ?_
  cases q : gs ov iv v S2 with
  | ok _ S3 =>
    rw [q] at h2
    exact fun m' H' _ e' s' _ => h2.to e' s' (er2.mono e')
  | err c x S3 => rw [q] at h2; exact h2
  | bad => rw [q] at h2; exact h2
/-- o.f = v -/
def putL (k : Nat) (v : Vl) : List (Nat × Vl) → List (Nat × Vl)
  | [] => [(k, v)]
  | (j, x) :: r => if j = k then (j, v) :: r else (j, x) :: putL k v r
theorem FR.put {K : PySem.W.Frag} {m : List Addr} {H : Hp} {k : Nat} {v : Vl} {u : V} (rv : Vr N K m H v u) : ∀ {fs : List (Nat × Vl)} {gs : List (Str × V)}, FR N K m H fs gs → FR N K m H (putL k v fs) (putF (N.f k) u gs)
  | _, _, .nil => .cons rv .nil
  | (j, x) :: fs, _, .cons (us := us) h r => by
    show FR N K m H (if j = k then (j, v) :: fs else (j, x) :: putL k v fs) (if N.f j = N.f k then (N.f j, u) :: us else (N.f j, _) :: putF (N.f k) u us)
    by_cases q : j = k
    · rw [if_pos q, if_pos (by rw [q])]; exact .cons rv r
    · rw [if_neg q, if_neg (fun z => q (N.fi _ _ z))]; exact .cons h (FR.put rv r)
def gmFld (k : Nat) (cs : List Nat) (o : XE') : GM := fun v env S => (o env S).bind fun ov S1 => match ov with
  | .ref i => match S1[i]? with
    | some (.ins c fs) => if cs.contains c = true ∧ fs.length < 1000 then .ok env (S1.set i (.ins c (putL k v fs))) else .bad
    | _ => .bad
  | _ => .bad
def gFld (K : PySem.W.Frag) (ta : TE) (f : Str) : TG := fun v σ H Q => ta σ H fun x H2 => ∃ a C dx fs, x = .ref a ∧ H2 a = some (.ins C dx fs) ∧ Cls K C ∧ NoAttr K C f ∧ fs.length < 1000 ∧ Q σ (upd H2 a (.ins C dx (putF f v fs)))
theorem pg_fld {o : Expr} {f : Str} {ta : TE} (ha : PE X o ta) : PG X (.Attribute o f pos) (gFld X.K ta f) := by
  refine ⟨fun pins s σ H v u Q I r h => ?_⟩
  rw [assign_Attribute]
  refine wpAny_bind (wpAny_holding (thn (ha.run pins s σ H _ I h) fun ov s1 ⟨x, H1, I1, rx, a, C, dx, fs, ex, ea, c, n, l, q⟩ => ?_))
  subst ex
  obtain rfl : ov = Value.ref a := rx
  refine wpAny_bind (wpAny_standAt (wpAny_bind (wpAny_holding (setattr_ok I1 ea c n l r fun s2 I2 => ?_))))
  exact wpAny_release ⟨σ, _, I2, q⟩
theorem sg_fld (k : Nat) {cs : List Nat} {o : Expr} (hF : FOk N X.K (N.f k) cs) (he : SE N X W o fa) : SG N X W (.Attribute o (N.f k) pos) (gmFld k cs fa) := by
  obtain ⟨to, p0, s0⟩ := he.ex
  refine ⟨_, pg_fld p0, fun m S H env σ v u Q s er r h => s0.step s er h fun ov S1 m1 H1 u1 e1 sr1 r1 er1 h1 => ?_⟩
  split at h1
  · split at h1
    · rename_i c fs hS
      split at h1
      · rename_i hc
        obtain ⟨a, rfl, hma⟩ := r1.ref'
        obtain ⟨dx, gs, hH, hf⟩ := sr1.ins hma hS
        obtain ⟨c1, c2⟩ := hF.at_ hc.1
        have e2 : Ext X.K m1 H1 m1 (upd H1 a (.ins (He.ga X.K (N.g c)) dx (putF (N.f k) u gs))) := Ext.upd hH trivial
        exact ⟨a, _, dx, gs, rfl, hH, c1, c2, by rw [← hf.len]; exact hc.2, h1.to e2 (sr1.set hma hH trivial (.ins (hf.put (r.mono e1)))) (er1.mono e2)⟩
      · exact h1.elim
    · exact h1.elim
  · exact h1.elim
/-- o.f = e -/
theorem ss_fld (k : Nat) {cs : List Nat} {o : Expr} (hF : FOk N X.K (N.f k) cs) (ho : SE N X W o fb) (he : SE N X W e fa) (hs : swapsWith e (some (.Attribute o (N.f k) pos')) pos.line X.env = pure false := by rfl) :
    SS N X W (.Assign [.Attribute o (N.f k) pos'] e pos) (zAsg fa (gmFld k cs fb)) := by
  obtain ⟨t1, p1, s1⟩ := he.ex
  obtain ⟨t2, p2, s2⟩ := ho.ex
  obtain ⟨_, _, s3⟩ := (sg_fld (pos := pos') k hF ho).ex
  refine ⟨fun D σ H => t1 σ H fun x H1 => gFld X.K t2 (N.f k) x σ H1 D.nx, ⟨fun pins s σ H D I h => (ps_fld p2 p1 hs).run pins s σ H D I h⟩, fun m S H env σ D s er h => s1.stepS s er h fun v S1 m1 H1 u e1 sr1 r1 er1 h1 => ?_⟩
  have h1' : PostS N X.K m1 H1 D W ((fb env S1).bindS env fun ov S2 => ((match ov with
    | .ref i => match S2[i]? with
      | some (.ins c fs) => if cs.contains c = true ∧ fs.length < 1000 then .ok env (S2.set i (.ins c (putL k v fs))) else .bad
      | _ => .bad
    | _ => .bad : Out En)).bindS env fun e S2 => .ok (.nx e) S2) := by
    have h1'' : PostS N X.K m1 H1 D W ((gmFld k cs fb v env S1).bindS env fun e S2 => .ok (.nx e) S2) := h1
    unfold gmFld at h1''
    cases q : fb env S1 with
    | ok ov S2 => rw [q] at h1''; exact h1''
    | err c x S2 => rw [q] at h1''; exact h1''
    | bad => rw [q] at h1''; exact h1''
  refine s2.stepS sr1 er1 h1' fun ov S2 m2 H2 u2 e2 sr2 r2 er2 h2 => ?_
  split at h2
  · split at h2
    · rename_i c fs hS
      split at h2
      · rename_i hc
        obtain ⟨a, rfl, hma⟩ := r2.ref'
        obtain ⟨dx, gs, hH, hf⟩ := sr2.ins hma hS
        obtain ⟨c1, c2⟩ := hF.at_ hc.1
        have e3 : Ext X.K m2 H2 m2 (upd H2 a (.ins (He.ga X.K (N.g c)) dx (putF (N.f k) u gs))) := Ext.upd hH trivial
        exact ⟨a, _, dx, gs, rfl, hH, c1, c2, by rw [← hf.len]; exact hc.2, h2 m2 _ σ e3 (sr2.set hma hH trivial (.ins (hf.put (r1.mono e2)))) (er2.mono e3)⟩
      · exact h2.elim
    · exact h2.elim
  · exact h2.elim
end
end Nt

namespace Nt
open PySem PySem.Spec PyProof.Rows L2 Evl
/-! ### loops -/
def whileZ (t : XT) (f : ZS) : Nat → En → Sto → Out Fl
  | 0, _, _ => .bad
  | n + 1, env, S => (t env S).bindS env fun b S1 => if b = true then (match f env S1 with
      | .ok (.nx e) S2 => whileZ t f n e S2
      | .ok (.ct e) S2 => whileZ t f n e S2
      | .ok (.bk e) S2 => .ok (.nx e) S2
      | o => o) else .ok (.nx env) S1
def zWhile (φ : Nat) (t : XT) (f : ZS) : ZS := fun env S => whileZ t f φ env S
inductive Yd where
  | yld (x : Vl) (S : Sto) | stop | bad
structure Itm where
  fuel : Nat
  nxt : Nat → Sto → Yd
def YdR (N : Nms) (K : PySem.W.Frag) (m : List Addr) (H : Hp) (J : It) (i : Nat) : Yd → Prop
  | .yld x S' => J.go i H ∧ ∀ u H', J.yld i H u H' → ∃ m', Ext K m H m' H' ∧ SR N K m' S' H' ∧ Vr N K m' H' x u
  | .stop => J.stop i H
  | .bad => True
def ItR (N : Nms) (K : PySem.W.Frag) (m0 : List Addr) (H0 : Hp) (I : Itm) (J : It) : Prop := ∀ m S H i, Ext K m0 H0 m H → SR N K m S H → YdR N K m H J i (I.nxt i S)
theorem ItR.mono {N : Nms} {K : PySem.W.Frag} {m m1 : List Addr} {H H1 : Hp} {I : Itm} {J : It} (e : Ext K m H m1 H1) (h : ItR N K m H I J) : ItR N K m1 H1 I J := fun m' S H' i e' s => h m' S H' i (e.trans e') s
structure SI (N : Nms) (X : Cx) (W : L2.St → XK) (tg iter : Expr) (f : En → Sto → Out Itm) : Prop where
  ex : ∃ wi, PI X tg iter wi ∧ Sim N X.K (ItR N X.K) W wi f
def forZ (I : Itm) (g : GM) (f : ZS) : Nat → Nat → En → Sto → Out Fl
  | n, i, env, S => match I.nxt i S with
    | .stop => .ok (.nx env) S
    | .bad => .bad
    | .yld x S1 => match n with
      | 0 => .bad
      | n + 1 => (g x env S1).bindS env fun e1 S2 => match f e1 S2 with
        | .ok (.nx e) S3 => forZ I g f n (i + 1) e S3
        | .ok (.ct e) S3 => forZ I g f n (i + 1) e S3
        | .ok (.bk e) S3 => .ok (.nx e) S3
        | o => o
def zFor (it : En → Sto → Out Itm) (g : GM) (f : ZS) : ZS := fun env S => (it env S).bindS env fun I S1 => forZ I g f I.fuel 0 env S1
section
variable {N : Nms} {X : Cx} {W : L2.St → XK} {e a b c tg iter : Expr} {st : Stmt} {rest body orelse : List Stmt} {es : List Expr} {fa fb : XE'} {f g : ZS} {ft : XT} {pos p pos' : Pos} {x : Str} {gm : GM} {fi : En → Sto → Out Itm}
/-- the body of a loop: what it reaches -/
theorem PostS.turn {K : PySem.W.Frag} {m : List Addr} {H : Hp} {D : Ends} {Nx : L2.St → Hp → Prop} {o : Out Fl} {k : En → Sto → Out Fl} (h : PostS N K m H D W (match o with
      | .ok (.nx e) S2 => k e S2
      | .ok (.ct e) S2 => k e S2
      | .ok (.bk e) S2 => .ok (.nx e) S2
      | o => o)) (hn : ∀ e S m' H' σ', Ext K m H m' H' → SR N K m' S H' → EnR N K m' H' e σ' → PostS N K m' H' D W (k e S) → Nx σ' H') : PostS N K m H { D with nx := Nx, ct := Nx, bk := D.nx } W o := by
  cases o with
  | ok v S =>
    cases v with
    | nx e => exact fun m' H' σ' e' s' r' => hn e S m' H' σ' e' s' r' (PostS.mono e' h)
    | ct e => exact fun m' H' σ' e' s' r' => hn e S m' H' σ' e' s' r' (PostS.mono e' h)
    | bk e => exact h
    | rt v => exact h
    | er c x e => exact h
  | err c x S => exact h
  | bad => exact h
theorem ss_while (φ : Nat) (hp : PassesOwn (model X.prog X.w) X.A X.env X.xe) (hc : ST N X W c ft) (hb : SSs N X W body f) : SS N X W (.While c body [] pos) (zWhile φ ft f) := by
  obtain ⟨t0, p0, s0⟩ := hc.ex
  obtain ⟨t1, p1, s1⟩ := hb.ex
  refine ⟨_, ps_while hp p0 p1, fun m S H env σ D s er h => ?_⟩
  refine ⟨fun n σ H => ∃ m S env, SR N X.K m S H ∧ EnR N X.K m H env σ ∧ PostS N X.K m H D W (whileZ ft f n env S), ⟨φ, m, S, env, s, er, h⟩, ?_⟩
  rintro n σ H ⟨m, S, env, s, er, h⟩
  cases n with
  | zero => exact h.elim
  | succ n =>
    refine s0.stepS s er h fun v S1 m1 H1 u e1 sr1 r1 er1 h1 => ?_
    cases r1
    cases v with
    | true =>
      refine (if_pos rfl).mpr ⟨fun σ' H' => ∃ m S env, SR N X.K m S H' ∧ EnR N X.K m H' env σ' ∧ PostS N X.K m H' D W (whileZ ft f n env S), fun σ' H' q => ⟨n, Nat.lt_succ_self n, q⟩, ?_⟩
      exact s1 m1 S1 H1 env σ _ sr1 er1 (PostS.turn (k := whileZ ft f n) h1 fun e S2 m' H' σ' e' s' r' h2 => ⟨m', S2, e, s', r', h2⟩)
    | false => exact (if_neg Bool.false_ne_true).mpr (h1 m1 H1 σ Ext.refl sr1 er1)
theorem forZ_eq {I : Itm} {n i : Nat} {env : En} {S : Sto} : forZ I gm f n i env S = match I.nxt i S with
    | .stop => .ok (.nx env) S
    | .bad => .bad
    | .yld x S1 => match n with
      | 0 => .bad
      | n + 1 => (gm x env S1).bindS env fun e1 S2 => match f e1 S2 with
        | .ok (.nx e) S3 => forZ I gm f n (i + 1) e S3
        | .ok (.ct e) S3 => forZ I gm f n (i + 1) e S3
        | .ok (.bk e) S3 => .ok (.nx e) S3
        | o => o := by
  cases n <;> rw [forZ]
theorem ss_for (hp : PassesOwn (model X.prog X.w) X.A X.env X.xe) (hc : X.calm = true) (hi : SI N X W tg iter fi) (hg : SG N X W tg gm) (hb : SSs N X W body f) (hs : ∀ v, foldedSetIterable iter X.env v = pure v := by intro _; rfl) : SS N X W (.For tg iter body [] pos) (zFor fi gm f) := by
  obtain ⟨t0, p0, s0⟩ := hi.ex
  obtain ⟨t1, p1, s1⟩ := hg.ex
  obtain ⟨t2, p2, s2⟩ := hb.ex
  refine ⟨_, ps_for hp hc p0 p1 p2 hs, fun m S H env σ D s er h => s0.stepS s er h fun I S1 m1 H1 J e1 sr1 r1 er1 h1 => ?_⟩
  refine ⟨fun i n σ H => ∃ m S env, Ext X.K m1 H1 m H ∧ SR N X.K m S H ∧ EnR N X.K m H env σ ∧ PostS N X.K m H D W (forZ I gm f n i env S), ⟨I.fuel, m1, S1, env, Ext.refl, sr1, er1, h1⟩, ?_⟩
  rintro i n σ H ⟨m, S, env, e, s, er, h⟩
  rw [forZ_eq] at h
  have hJ := r1 m S H i e s
  cases q : I.nxt i S with
  | stop =>
    rw [q] at h hJ
    exact .inl ⟨hJ, h m H σ Ext.refl s er⟩
  | bad => rw [q] at h; exact h.elim
  | yld x S2 =>
    rw [q] at h hJ
    cases n with
    | zero => exact h.elim
    | succ n =>
      refine .inr ⟨hJ.1, fun σ' H' => ∃ m S env, Ext X.K m1 H1 m H' ∧ SR N X.K m S H' ∧ EnR N X.K m H' env σ' ∧ PostS N X.K m H' D W (forZ I gm f n (i + 1) env S), fun σ' H' z => ⟨n, Nat.lt_succ_self n, z⟩, fun u H' hy => ?_⟩
      obtain ⟨m', e', s', r'⟩ := hJ.2 u H' hy
      refine s1 m' S2 H' env σ x u _ s' (er.mono e') r' ?_
      have h' : PostS N X.K m' H' D W ((gm x env S2).bindS env fun e1 S2 => match f e1 S2 with
        | .ok (.nx e) S3 => forZ I gm f n (i + 1) e S3
        | .ok (.ct e) S3 => forZ I gm f n (i + 1) e S3
        | .ok (.bk e) S3 => .ok (.nx e) S3
        | o => o) := PostS.mono e' h
      cases q2 : gm x env S2 with
      | ok e2 S3 =>
        rw [q2] at h'
        refine fun m2 H2 σ2 e3 s3 r3 => ?_
        refine s2 m2 S3 H2 e2 σ2 _ s3 r3 (PostS.turn (k := forZ I gm f n (i + 1)) (PostS.mono e3 h') fun e4 S4 m4 H4 σ4 e5 s5 r5 h5 => ⟨m4, S4, e4, ((e.trans e').trans e3).trans e5, s5, r5, h5⟩)
      | err c' x' S3 => rw [q2] at h'; exact fun m2 H2 d e3 s3 x3 => h' m2 H2 d σ e3 s3 ((er.mono e').mono e3) x3
      | bad => rw [q2] at h'; exact h'.elim
/-! ### op= and pairs -/
def zAug (i : Nat) (a : XE') (g : Vl → Vl → Sto → Out Vl) : ZS := fun env S => match env[i]? with
  | some (some x) => (a env S).bindS env fun y S1 => (g x y S1).bindS env fun z S2 => .ok (.nx (env.set i (some z))) S2
  | _ => .bad
theorem ss_aug {i : Nat} {op : Operator} {gv : Vl → Vl → Sto → Out Vl} (ho : OpM N X (inplaceOp op) gv) (hN : X.N.Nodup) (hi : X.N[i]? = some x) (hx : Loc X.env.scope x) (he : SE N X W e fa) (hf : X.fn x = true ∨ X.env.scope.names.lookup x = some .local := by first | exact .inl rfl | exact .inr rfl | assumption) (hfr : N.fr i := by first | exact Nms.fr0 rfl | exact Nms.frh rfl) :
    SS N X W (.AugAssign (.Name x pos') op e pos) (zAug i fa gv) := by
  obtain ⟨r, h1, h2⟩ := ho.ex
  obtain ⟨t1, p1, s1⟩ := he.ex
  refine ⟨_, ps_aug hN hi hx p1 h1 hf, fun m S H env σ D s er h => ?_⟩
  unfold zAug at h
  split at h
  · rename_i v hv
    obtain ⟨u, hu, ru⟩ := er.at_ i v hv
    refine ⟨u, hu, s1.stepS s er h fun y S1 m1 H1 uy e1 sr1 r1 er1 h1 => ?_⟩
    refine h2 m1 S1 H1 v y u uy _ (W σ) sr1 (ru.mono e1) r1 ?_
    cases q : gv v y S1 with
    | ok z S2 => rw [q] at h1; exact fun m' H' uz e' s' rz => h1 m' H' _ e' s' ((er1.mono e').set hfr rz)
    | err c' x' S2 => rw [q] at h1; exact fun m' H' d e' s' x' => h1 m' H' d σ e' s' (er1.mono e') x'
    | bad => rw [q] at h1; exact h1.elim
  · exact h.elim
def zFldAug (k : Nat) (cs : List Nat) (o a : XE') (g : Vl → Vl → Sto → Out Vl) : ZS := fun env S => (o env S).bindS env fun ov S1 => match ov with
  | .ref i => match S1[i]? with
    | some (.ins c fs) => if cs.contains c = true then match fs.lookup k with
      | some x => (a env S1).bindS env fun y S2 => (g x y S2).bindS env fun z S3 => match S3[i]? with
        | some (.ins c' fs') => if c' = c ∧ fs'.length < 1000 then .ok (.nx env) (S3.set i (.ins c (putL k z fs'))) else .bad
        | _ => .bad
      | none => .bad
      else .bad
    | _ => .bad
  | _ => .bad
theorem ss_fldaug (k : Nat) {cs : List Nat} {o : Expr} {fo : XE'} {op : Operator} {gv : Vl → Vl → Sto → Out Vl} (hop : OpM N X (inplaceOp op) gv) (hF : FOk N X.K (N.f k) cs) (ho : SE N X W o fo) (he : SE N X W e fa) : SS N X W (.AugAssign (.Attribute o (N.f k) pos') op e pos) (zFldAug k cs fo fa gv) := by
  obtain ⟨r, h1, h2⟩ := hop.ex
  obtain ⟨t0, p0, s0⟩ := ho.ex
  obtain ⟨t1, p1, s1⟩ := he.ex
  refine ⟨_, ps_fldaug p0 p1 (fun pins s σ H x y u v Q I rx ry q => h1 pins s σ H x y u v Q I rx ry q), fun m S H env σ D s er h => s0.stepS s er h fun ov S1 m1 H1 ou e1 sr1 r1 er1 h1 => ?_⟩
  split at h1
  · rename_i i
    split at h1
    · rename_i c fs hS
      split at h1
      · rename_i hc
        split at h1
        · rename_i v hv
          obtain ⟨a, rfl, hma⟩ := r1.ref'
          obtain ⟨dx, gs, hH, hf⟩ := sr1.ins hma hS
          obtain ⟨u', hl, hr'⟩ := hf.look hv
          obtain ⟨c1, c2⟩ := hF.at_ hc
          refine ⟨a, _, dx, gs, u', rfl, hH, c1, c2, hl, s1.stepS sr1 er1 h1 fun y S2 m2 H2 uy e2 sr2 r2 er2 h3 => ?_⟩
          refine h2 m2 S2 H2 v y u' uy _ (W σ) sr2 (hr'.mono e2) r2 ?_
          cases q : gv v y S2 with
          | ok z S3 =>
            rw [q] at h3
            intro m' H' uz e' s' rz
            dsimp only [Out.bindS_ok] at h3
            split at h3
            · rename_i c' fs' hS3
              split at h3
              · rename_i hc'
                obtain ⟨rfl, hlen⟩ := hc'
                have hma' := e'.pre _ _ (e2.pre _ _ hma)
                obtain ⟨dx', gs', hH', hf'⟩ := s'.ins hma' hS3
                have e3 : Ext X.K m' H' m' (upd H' a (.ins (He.ga X.K (N.g c')) dx' (putF (N.f k) uz gs'))) := Ext.upd hH' trivial
                exact ⟨dx', gs', hH', by rw [← hf'.len]; exact hlen, h3 m' _ σ (e'.trans e3) (s'.set hma' hH' trivial (.ins (hf'.put rz))) ((er2.mono e').mono e3)⟩
              · exact h3.elim
            · exact h3.elim
          | err c' x' S3 => rw [q] at h3; exact fun m' H' d e' s' x' => h3 m' H' d σ e' s' (er2.mono e') x'
          | bad => rw [q] at h3; exact h3.elim
        · exact h1.elim
      · exact h1.elim
    · exact h1.elim
  · exact h1.elim
/-- a, b = x, y (two names) -/
def zPar (i j : Nat) (a b : XE') : ZS := fun env S => (a env S).bindS env fun v S1 => (b env S1).bindS env fun w S2 => .ok (.nx ((env.set i (some v)).set j (some w))) S2
theorem ss_par {i j : Nat} {x y : Str} {px py pt : Pos} {kt k2 pt2} (hc : X.calm = true) (hN : X.N.Nodup) (hi : X.N[i]? = some x) (hj : X.N[j]? = some y) (hij : i ≠ j)
    (hx : X.env.scope.names.lookup x = some .local) (hy : X.env.scope.names.lookup y = some .local) (ha : SE N X W a fa) (hb : SE N X W b fb)
    (hw : swappedStores [.Tuple [.Name x px, .Name y py] kt pt] (.Tuple [a, b] k2 pt2) X.env = pure (some [x, y]))
    (hs : swapsWithSole [.Tuple [.Name x px, .Name y py] kt pt] (.Tuple [a, b] k2 pt2) pos.line X.env = pure false := by rfl)
    (s1 : starEach [a, b] X.env = (false, eval a X.env) :: starEach [b] X.env := by rfl) (s2 : starEach [b] X.env = (false, eval b X.env) :: starEach [] X.env := by rfl) (hfi : N.fr i := by first | exact Nms.fr0 rfl | exact Nms.frh rfl) (hfj : N.fr j := by first | exact Nms.fr0 rfl | exact Nms.frh rfl) :
    SS N X W (.Assign [.Tuple [.Name x px, .Name y py] kt pt] (.Tuple [a, b] k2 pt2) pos) (zPar i j fa fb) := by
  obtain ⟨t1, p1, s1'⟩ := ha.ex
  obtain ⟨t2, p2, s2'⟩ := hb.ex
  refine ⟨_, ps_par hc hN hi hj hij hx hy (pa_cons p1 (pa_cons p2 pa_nil s2) s1) hw hs, fun m S H env σ D s er h => s1'.stepS s er h fun v S1 m1 H1 u e1 sr1 r1 er1 h1 => ?_⟩
  refine s2'.stepS sr1 er1 h1 fun w S2 m2 H2 u2 e2 sr2 r2 er2 h2 => ?_
  exact ⟨_, _, rfl, h2 m2 H2 _ Ext.refl sr2 ((er2.set hfi (r1.mono e2)).set hfj r2)⟩
/-- several targets: t1 = t2 = t3 = e -/
def zAsg3 (a : XE') (g1 g2 g3 : GM) : ZS := fun env S => (a env S).bindS env fun v S1 => (g1 v env S1).bindS env fun e1 S2 => (g2 v e1 S2).bindS e1 fun e2 S3 => (g3 v e2 S3).bindS e2 fun e3 S4 => .ok (.nx e3) S4
theorem ss_asg3 {t1 t2 t3 : Expr} {g1 g2 g3 : GM} (he : SE N X W e fa) (h1 : SG N X W t1 g1) (h2 : SG N X W t2 g2) (h3 : SG N X W t3 g3)
    (ha : (assignEach [t1, t2, t3] X.env).map (·.2) = [assign t1 X.env, assign t2 X.env, assign t3 X.env] := by rfl) (hw : swappedStores [t1, t2, t3] e X.env = pure none := by rfl) : SS N X W (.Assign [t1, t2, t3] e pos) (zAsg3 fa g1 g2 g3) := by
  obtain ⟨u0, p0, s0⟩ := he.ex
  obtain ⟨u1, p1, s1⟩ := h1.ex
  obtain ⟨u2, p2, s2⟩ := h2.ex
  obtain ⟨u3, p3, s3⟩ := h3.ex
  refine ⟨_, ps_asg3 p0 p1 p2 p3 ha hw, fun m S H env σ D s er h => s0.stepS s er h fun v S1 m1 H1 u e1 sr1 r1 er1 h1 => ?_⟩
  refine s1 m1 S1 H1 env σ v u _ sr1 er1 r1 ?_
  cases q1 : g1 v env S1 with
  | ok en1 S2 =>
    rw [q1] at h1
    refine fun m2 H2 σ2 e2 sr2 er2 => s2 m2 S2 H2 en1 σ2 v u _ sr2 er2 (r1.mono e2) ?_
    have h2 : PostS N X.K m2 H2 D W ((g2 v en1 S2).bindS en1 fun e2 S3 => (g3 v e2 S3).bindS e2 fun e3 S4 => .ok (.nx e3) S4) := PostS.mono e2 h1
    cases q2 : g2 v en1 S2 with
    | ok en2 S3 =>
      rw [q2] at h2
      refine fun m3 H3 σ3 e3 sr3 er3 => s3 m3 S3 H3 en2 σ3 v u _ sr3 er3 ((r1.mono e2).mono e3) ?_
      have h3 : PostS N X.K m3 H3 D W ((g3 v en2 S3).bindS en2 fun e3 S4 => .ok (.nx e3) S4) := PostS.mono e3 h2
      cases q3 : g3 v en2 S3 with
      | ok en3 S4 => rw [q3] at h3; exact h3
      | err c' x' S4 => rw [q3] at h3; exact fun m' H' d e' s' x' => h3 m' H' d σ3 e' s' (er3.mono e') x'
      | bad => rw [q3] at h3; exact h3.elim
    | err c' x' S4 => rw [q2] at h2; exact fun m' H' d e' s' x' => h2 m' H' d σ2 e' s' (er2.mono e') x'
    | bad => rw [q2] at h2; exact h2.elim
  | err c' x' S4 => rw [q1] at h1; exact fun m' H' d e' s' x' => h1 m' H' d σ e' s' (er1.mono e') x'
  | bad => rw [q1] at h1; exact h1.elim
end
/-! ### raise -/
def zRaise (c : Nat) : ZS := fun env S => .ok (.er c none env) S
theorem ss_raise0 {N : Nms} {X : Cx} {W : L2.St → XK} {x : Str} {p pos pos' : Pos} {B newId initId : String} {bmB : List Value} (c : Nat) (hc : X.calm = true) (tk : L2N.Takes X (fun cls d σ H => W σ cls d H)) (F : ExcBaseFacts B newId initId bmB) (q : ExcD X.K (He.ga X.K (N.g c)) bmB newId) (gC : X.mg x = some (.ref (He.ga X.K (N.g c)))) (hg : Gl X x)
    (hdb : (x == ("__debug__" : Str)) = false := by decide) : SS N X W (.Raise (some (.Call (.Name x p) [] [] pos)) none pos') (zRaise c) :=
  ⟨_, L2N.ps_raise hc tk (pmk_own0 F q.q gC q.k (raises_own q.s q.t) hg hdb), fun m S H env σ D s er h => h m H none σ Ext.refl s er trivial⟩
/-! ### a def by its body -/
/-- nothing is raised out -/
def runB0 (n : Nat) (b : ZS) : List Vl → Sto → Out Vl := fun args S => match b (enter n args) S with
  | .ok (.nx _) S' => .ok .non S'
  | .ok (.rt v) S' => .ok v S'
  | _ => .bad
def runBX (n : Nat) (b : ZS) : List Vl → Sto → Out Vl := fun args S => match b (enter n args) S with
  | .ok (.nx _) S' => .ok .non S'
  | .ok (.rt v) S' => .ok v S'
  | .ok (.er c x _) S' => .err c x S'
  | _ => .bad
section
variable {N : Nms} {P : Program} {w : World} {K : PySem.W.Frag} {mg : Str → Option Value} {base : Heap} {x qual : Str} {params : Arguments} {body : List Stmt} {scope : Scope} {dvs : List V} {kws : List (Str × V)} {L ps : List Str} {k : Nat} {f : Addr} {b : ZS}
theorem fn_mk0 (F : ∃ fd, FunD K x qual params body scope dvs kws f fd) (S : FnScope L ps scope)
    (hbody : ∀ (cdv : Value) (A : Around) (outer : List Env) (s : Shared) (H : Hp) (E : XK), Room k (A.deeper (envOfC qual scope s.heap.objs.size f cdv)) → SSs N (cxOf CX0 P w K mg base L qual scope f cdv A outer s H E) (fun _ => E0) body b) (h0 : N.xh = none := by rfl) :
    FnM N P w K mg base CX0 (k + 1) f (FunD K x qual params body scope dvs kws f) ps (runB0 L.length b) := by
  obtain ⟨fd, F⟩ := F
  refine ⟨fd, F, F.kp, F.ok S (fun vs H Q E h => ?_) fun cdv A outer s H vs Q E hr h => ?_⟩
  · obtain ⟨m, S', args, h1, _, h3, _⟩ := h
    rw [← h3.len]; exact h1
  · obtain ⟨m, S', args, h1, h2, h3, h4⟩ := h
    obtain ⟨t, p, sm⟩ := (hbody cdv A outer s H E hr).ex
    refine ⟨t, p, sm m S' H _ _ _ h2 (enter_ok h0 h3) ?_⟩
    unfold runB0 at h4
    cases q : b (enter L.length args) S' with
    | ok v S1 =>
      rw [q] at h4
      cases v with
      | nx e => exact fun m' H' σ' e' s' r' => h4 m' H' .non e' s' .non
      | rt v => exact h4
      | bk e => exact h4.elim
      | ct e => exact h4.elim
      | er c x e => exact h4.elim
    | err c x S1 => rw [q] at h4; exact h4.elim
    | bad => rw [q] at h4; exact h4.elim
theorem fn_mkX (F : ∃ fd, FunD K x qual params body scope dvs kws f fd) (S : FnScope L ps scope)
    (hbody : ∀ (cdv : Value) (A : Around) (outer : List Env) (s : Shared) (H : Hp) (E : XK), Room k (A.deeper (envOfC qual scope s.heap.objs.size f cdv)) → SSs N (cxOf (L2N.CX P w) P w K mg base L qual scope f cdv A outer s H E) (fun _ => E) body b) (h0 : N.xh = none := by rfl) :
    FnM N P w K mg base (L2N.CX P w) (k + 1) f (FunD K x qual params body scope dvs kws f) ps (runBX L.length b) := by
  obtain ⟨fd, F⟩ := F
  refine ⟨fd, F, F.kp, F.ok S (fun vs H Q E h => ?_) fun cdv A outer s H vs Q E hr h => ?_⟩
  · obtain ⟨m, S', args, h1, _, h3, _⟩ := h
    rw [← h3.len]; exact h1
  · obtain ⟨m, S', args, h1, h2, h3, h4⟩ := h
    obtain ⟨t, p, sm⟩ := (hbody cdv A outer s H E hr).ex
    refine ⟨t, p, sm m S' H _ _ _ h2 (enter_ok h0 h3) ?_⟩
    unfold runBX at h4
    cases q : b (enter L.length args) S' with
    | ok v S1 =>
      rw [q] at h4
      cases v with
      | nx e => exact fun m' H' σ' e' s' r' => h4 m' H' .non e' s' .non
      | rt v => exact h4
      | bk e => exact h4.elim
      | ct e => exact h4.elim
      | er c x e => exact fun m' H' d σ' e' s' _ x' => h4 m' H' d e' s' x'
    | err c x S1 => rw [q] at h4; exact h4.elim
    | bad => rw [q] at h4; exact h4.elim
end
theorem pas0 {X : Cx} {W : L2.St → XK} : ∀ σ, PassesAt CX0 X σ (W σ) := fun _ _ _ _ _ _ _ h => h.elim
theorem pasL {X : Cx} : ∀ σ : L2.St, PassesAt (L2N.CX X.prog X.w) X σ ((fun _ => E0) σ) := fun σ pins H s e s' I h => passL pins σ H s e s' I h
end Nt

namespace Nt
open PySem PySem.Spec PyProof.Rows L2 Evl
/-! ### operators by values -/
def vAdd : Vl → Vl → Sto → Out Vl
  | .int i, .int j, S => .ok (.int (i + j)) S
  | .str a, .str b, S => if a.length + b.length ≤ 100000 then .ok (.str (a ++ b)) S else .bad
  | .tup xs, .tup ys, S => if xs.length + ys.length ≤ 100000 then .ok (.tup (xs ++ ys)) S else .bad
  | .ref i, .ref j, S => match S[i]?, S[j]? with
    | some (.lst xs), some (.lst ys) => if xs.length + ys.length ≤ 100000 then .ok (.ref S.length) (S ++ [.lst (xs ++ ys)]) else .bad
    | _, _ => .bad
  | _, _, _ => .bad
def vSub : Vl → Vl → Sto → Out Vl
  | .int i, .int j, S => .ok (.int (i - j)) S
  | _, _, _ => .bad
def vMul : Vl → Vl → Sto → Out Vl
  | .int i, .int j, S => if ((-(2 ^ 64) < i ∧ i < 2 ^ 64) ∨ (-(2 ^ 64) < j ∧ j < 2 ^ 64)) ∨ i.natAbs.log2 + j.natAbs.log2 < 1000000 then .ok (.int (i * j)) S else .bad
  | _, _, _ => .bad
def vDiv : Vl → Vl → Sto → Out Vl
  | .int i, .int j, S => if 0 < j ∧ j.natAbs.log2 < 9000 then .ok (.int (i / j)) S else .bad
  | _, _, _ => .bad
def vMod : Vl → Vl → Sto → Out Vl
  | .int i, .int j, S => if 0 < j then .ok (.int (i % j)) S else .bad
  | _, _, _ => .bad
def vPow : Vl → Vl → Sto → Out Vl
  | .int i, .int j, S => if 0 ≤ j ∧ j ≤ 1000000 ∧ i.natAbs < 2 ^ 64 then .ok (.int (i ^ j.toNat)) S else .bad
  | _, _, _ => .bad
def vCmpI (g : Int → Int → Bool) : Vl → Vl → Sto → Out Vl
  | .int i, .int j, S => .ok (.bl (g i j)) S
  | _, _, _ => .bad
abbrev vLt := vCmpI fun i j => decide (i < j)
abbrev vLe := vCmpI fun i j => decide (i ≤ j)
abbrev vGt := vCmpI fun i j => decide (j < i)
abbrev vGe := vCmpI fun i j => decide (j ≤ i)
def vNeg : Vl → Sto → Out Vl
  | .int i, S => .ok (.int (-i)) S
  | _, _ => .bad
section
variable {N : Nms} {X : Cx}
theorem opm_add : OpM N X (binaryOp .Add) vAdd := by
  refine ⟨_, (op_add.or (op_add_str.or (op_cat.or op_catA))), fun m S H x y u w Q E s rx ry h => ?_⟩
  unfold vAdd at h
  split at h
  · cases rx; cases ry; exact .inl ⟨_, _, rfl, rfl, h.ok s (.int _)⟩
  · split at h
    · rename_i q; cases rx; cases ry; exact .inr (.inl ⟨_, _, rfl, rfl, sz_of q, h.ok s (.str _)⟩)
    · exact h.elim
  · split at h
    · rename_i xs ys q
      obtain ⟨a, us, rfl, h1, h2⟩ := rx.tup'
      obtain ⟨b, ws, rfl, h3, h4⟩ := ry.tup'
      refine .inr (.inr (.inr ⟨a, b, us, ws, rfl, rfl, st_of h1, st_of h3, sz_of (by rw [← h2.len, ← h4.len]; exact q), fun e => ?_, fun e1 e2 => ?_, fun e1 e2 p hp => ?_⟩))
      · subst e; cases h2; exact h.ok s (.tup h3 h4)
      · subst e2; cases h4; rw [List.append_nil] at h; exact h.ok s (.tup h1 h2)
      · have ex : Ext X.K m H m (upd H p (.tup (us ++ ws))) := Ext.same (Same.new hp)
        exact h.to ex (s.same (Same.new hp)) (.tup upd_same ((h2.append h4).mono ex))
    · exact h.elim
  · split at h
    · rename_i xs ys q1 q2
      split at h
      · rename_i q
        obtain ⟨a, rfl, h1⟩ := rx.ref'
        obtain ⟨b, rfl, h2⟩ := ry.ref'
        obtain ⟨us, h3, h4⟩ := s.lst h1 q1
        obtain ⟨ws, h5, h6⟩ := s.lst h2 q2
        refine .inr (.inr (.inl ⟨a, b, us, ws, rfl, rfl, h3, h5, sz_of (by rw [← h4.len, ← h6.len]; exact q), fun p hp => ?_⟩))
        exact h.to (Ext.app (Same.new hp)) (s.new (Same.new hp) hp upd_same (.lst (h4.append h6))) s.ref_new
      · exact h.elim
    · exact h.elim
  · exact h.elim
theorem opm_sub : OpM N X (binaryOp .Sub) vSub := by
  refine ⟨_, op_sub, fun m S H x y u w Q E s rx ry h => ?_⟩
  unfold vSub at h
  split at h
  · cases rx; cases ry; exact ⟨_, _, rfl, rfl, h.ok s (.int _)⟩
  · exact h.elim
theorem opm_mul : OpM N X (binaryOp .Mult) vMul := by
  refine ⟨_, op_mul.or op_mulW, fun m S H x y u w Q E s rx ry h => ?_⟩
  unfold vMul at h
  split at h
  · split at h
    · rename_i q
      cases rx; cases ry
      rcases q with q | q
      · exact .inl ⟨_, _, rfl, rfl, q, h.ok s (.int _)⟩
      · exact .inr ⟨_, _, rfl, rfl, q, h.ok s (.int _)⟩
    · exact h.elim
  · exact h.elim
theorem opm_div : OpM N X (binaryOp .FloorDiv) vDiv := by
  refine ⟨_, op_fdivW, fun m S H x y u w Q E s rx ry h => ?_⟩
  unfold vDiv at h
  split at h
  · split at h
    · rename_i q; cases rx; cases ry; exact ⟨_, _, rfl, rfl, q, h.ok s (.int _)⟩
    · exact h.elim
  · exact h.elim
theorem opm_mod : OpM N X (binaryOp .Mod) vMod := by
  refine ⟨_, op_mod, fun m S H x y u w Q E s rx ry h => ?_⟩
  unfold vMod at h
  split at h
  · split at h
    · rename_i q; cases rx; cases ry; exact ⟨_, _, rfl, rfl, q, h.ok s (.int _)⟩
    · exact h.elim
  · exact h.elim
theorem opm_pow : OpM N X (binaryOp .Pow) vPow := by
  refine ⟨_, op_pow, fun m S H x y u w Q E s rx ry h => ?_⟩
  unfold vPow at h
  split at h
  · split at h
    · rename_i q; cases rx; cases ry; exact ⟨_, _, rfl, rfl, q, h.ok s (.int _)⟩
    · exact h.elim
  · exact h.elim
theorem ops_cmpI {g : Int → Int → Bool} {K : PySem.W.Frag} : OpS N K (rI0 fun i j => .bl (g i j)) (vCmpI g) := fun m S H x y u w Q E s rx ry h => by
  unfold vCmpI at h
  split at h
  · cases rx; cases ry; exact ⟨_, _, rfl, rfl, h.ok s (.bl _)⟩
  · exact h.elim
theorem opm_lt : OpM N X (compareOp .Lt) vLt := ⟨_, op_lt, ops_cmpI⟩
theorem opm_le : OpM N X (compareOp .LtE) vLe := ⟨_, op_le, ops_cmpI⟩
theorem opm_gt : OpM N X (compareOp .Gt) vGt := ⟨_, op_gt, ops_cmpI⟩
theorem opm_ge : OpM N X (compareOp .GtE) vGe := ⟨_, op_ge, ops_cmpI⟩
theorem uns_neg {K : PySem.W.Frag} : UnS N K (rU fun i => .int (-i)) vNeg := fun m S H x u Q E s rx h => by
  unfold vNeg at h
  split at h
  · cases rx; exact ⟨_, rfl, h.ok s (.int _)⟩
  · exact h.elim
theorem se_neg {W : L2.St → XK} {a : Expr} {fa : XE'} {pos : Pos} (ha : SE N X W a fa) : SE N X W (.UnaryOp .USub a pos) (xUn vNeg fa) := se_un un_neg uns_neg ha
end
/-! ### op= -/
def vIadd : Vl → Vl → Sto → Out Vl
  | .int i, .int j, S => .ok (.int (i + j)) S
  | .ref i, .ref j, S => match S[i]?, S[j]? with
    | some (.lst xs), some (.lst ys) => if xs.length + ys.length ≤ 100000 then .ok (.ref i) (S.set i (.lst (xs ++ ys))) else .bad
    | _, _ => .bad
  | _, _, _ => .bad
section
variable {N : Nms} {X : Cx}
theorem opm_iadd : OpM N X (inplaceOp .Add) vIadd := by
  refine ⟨_, (OpR.or (fun pins s σ H x y v u Q I rx ry q => ip_add pins s σ H x y v u Q I rx ry q) iop_ext), fun m S H x y u w Q E s rx ry h => ?_⟩
  unfold vIadd at h
  split at h
  · cases rx; cases ry; exact .inl ⟨_, _, rfl, rfl, h.ok s (.int _)⟩
  · split at h
    · rename_i i j xs ys q1 q2
      split at h
      · rename_i q
        have rx0 := rx
        obtain ⟨a, rfl, h1⟩ := rx.ref'
        obtain ⟨b, rfl, h2⟩ := ry.ref'
        obtain ⟨us, h3, h4⟩ := s.lst h1 q1
        obtain ⟨ws, h5, h6⟩ := s.lst h2 q2
        have ex : Ext X.K m H m (upd H a (.lst (us ++ ws))) := Ext.upd h3 trivial
        exact .inr ⟨a, b, us, ws, rfl, rfl, h3, h5, sz_of (by rw [← h4.len, ← h6.len]; exact q), h.to ex (s.set h1 h3 trivial (.lst (h4.append h6))) (rx0.mono ex)⟩
      · exact h.elim
    · exact h.elim
  · exact h.elim
theorem opm_isub : OpM N X (inplaceOp .Sub) vSub := by
  refine ⟨_, (fun pins s σ H x y v u Q I rx ry q => ip_sub pins s σ H x y v u Q I rx ry q), fun m S H x y u w Q E s rx ry h => ?_⟩
  unfold vSub at h
  split at h
  · cases rx; cases ry; exact ⟨_, _, rfl, rfl, h.ok s (.int _)⟩
  · exact h.elim
end
/-! ### data: == and in -/
def allD {α β : Type} (f : α → Option β) : List α → Option (List β)
  | [] => some []
  | x :: xs => match f x, allD f xs with
    | some d, some ds => some (d :: ds)
    | _, _ => none
/-- a value as data, lists read -/
def toD : Nat → Sto → Vl → Option PyData
  | 0, _, _ => none
  | n + 1, S, v => match v with
    | .non => some .none
    | .bl b => some (.bool b)
    | .int i => some (.int i)
    | .str s => some (.str s)
    | .tup xs => (allD (toD n S) xs).map .tuple
    | .ktp xs => (allD (toD n S) xs).map .tuple
    | .ref i => match S[i]? with
      | some (.lst xs) => (allD (toD n S) xs).map .list
      | _ => none
    | .scr ns => some (.list (ns.map .int))
    | _ => none
theorem allD_dp {N : Nms} {K : PySem.W.Frag} {m : List Addr} {H : Hp} {f : Vl → Option PyData} (hf : ∀ x u d, f x = some d → Vr N K m H x u → Dp K H u d) : ∀ {xs : List Vl} {us : List V} {ds : List PyData}, allD f xs = some ds → Vrs N K m H xs us → DpAll K H us ds
  | [], _, _, e, .nil => by cases e; exact .nil
  | x :: xs, _, ds, e, .cons r rs => by
    unfold allD at e
    split at e
    · rename_i d ds' q1 q2
      cases e
      exact .cons (hf _ _ _ q1 r) (allD_dp hf q2 rs)
    · cases e
theorem dpAll_ints {K : PySem.W.Frag} {H : Hp} : ∀ ns : List Int, DpAll K H (ns.map V.int) (ns.map PyData.int)
  | [] => .nil
  | n :: ns => .cons (.int n) (dpAll_ints ns)
theorem toD_dp {N : Nms} {K : PySem.W.Frag} {m : List Addr} {S : Sto} {H : Hp} (s : SR N K m S H) : ∀ (n : Nat) (x : Vl) (u : V) (d : PyData), toD n S x = some d → Vr N K m H x u → Dp K H u d
  | 0, x, u, d, e, _ => by cases e
  | n + 1, x, u, d, e, r => by
    unfold toD at e
    split at e
    · cases e; cases r; exact .non
    · cases e; cases r; exact .bl _
    · cases e; cases r; exact .int _
    · cases e; cases r; exact .str _
    · obtain ⟨a, ys, rfl, h1, h2⟩ := r.asT rfl
      rename_i xs
      cases q : allD (toD n S) xs with
      | none => rw [q] at e; cases e
      | some ds =>
        rw [q] at e
        cases e
        exact .tup h1 (allD_dp (fun x u d e r => toD_dp s n x u d e r) q h2)
    · obtain ⟨a, ys, rfl, h1, h2⟩ := r.asT rfl
      rename_i xs
      cases q : allD (toD n S) xs with
      | none => rw [q] at e; cases e
      | some ds =>
        rw [q] at e
        cases e
        exact .tup h1 (allD_dp (fun x u d e r => toD_dp s n x u d e r) q h2)
    · obtain ⟨a, rfl, h1⟩ := r.ref'
      split at e
      · rename_i xs hS
        obtain ⟨ys, h2, h3⟩ := s.lst h1 hS
        cases q : allD (toD n S) xs with
        | none => rw [q] at e; cases e
        | some ds =>
          rw [q] at e
          cases e
          exact .lst (sq_of h2) (allD_dp (fun x u d e r => toD_dp s n x u d e r) q h3)
      · cases e
    · obtain ⟨a, rfl, h1⟩ := r.scr'
      cases e
      exact .lst h1.l (dpAll_ints _)
    · cases e
theorem plainAll_ints : ∀ ns : List Int, PyData.plainAll (ns.map PyData.int) = true
  | [] => rfl
  | n :: ns => by rw [List.map_cons, PyData.plainAll, plainAll_ints ns]; rfl
theorem depthAll_ints : ∀ ns : List Int, PyData.depthAll (ns.map PyData.int) = 0
  | [] => rfl
  | n :: ns => by rw [List.map_cons, PyData.depthAll, depthAll_ints ns]; rfl
theorem allD_plain {α : Type} {f : α → Option PyData} {n : Nat} (hf : ∀ x d, f x = some d → d.plain = true ∧ d.depth ≤ n) : ∀ {xs : List α} {ds : List PyData}, allD f xs = some ds → PyData.plainAll ds = true ∧ PyData.depthAll ds ≤ n
  | [], _, e => by cases e; exact ⟨rfl, Nat.zero_le _⟩
  | x :: xs, ds, e => by
    unfold allD at e
    split at e
    · rename_i d ds' q1 q2
      cases e
      obtain ⟨a1, a2⟩ := hf _ _ q1
      obtain ⟨b1, b2⟩ := allD_plain hf q2
      refine ⟨by rw [PyData.plainAll, a1, b1]; rfl, by rw [PyData.depthAll]; exact Nat.max_le.mpr ⟨a2, b2⟩⟩
    · cases e
theorem toD_plain : ∀ (n : Nat) (S : Sto) (x : Vl) (d : PyData), toD n S x = some d → d.plain = true ∧ d.depth ≤ n
  | 0, S, x, d, e => by cases e
  | n + 1, S, x, d, e => by
    unfold toD at e
    split at e
    · cases e; exact ⟨rfl, Nat.zero_le _⟩
    · cases e; exact ⟨rfl, Nat.zero_le _⟩
    · cases e; exact ⟨rfl, Nat.zero_le _⟩
    · cases e; exact ⟨rfl, Nat.zero_le _⟩
    · rename_i xs
      cases q : allD (toD n S) xs with
      | none => rw [q] at e; cases e
      | some ds =>
        rw [q] at e
        cases e
        obtain ⟨h1, h2⟩ := allD_plain (fun x d e => toD_plain n S x d e) q
        exact ⟨by rw [PyData.plain]; exact h1, by rw [PyData.depth]; omega⟩
    · rename_i xs
      cases q : allD (toD n S) xs with
      | none => rw [q] at e; cases e
      | some ds =>
        rw [q] at e
        cases e
        obtain ⟨h1, h2⟩ := allD_plain (fun x d e => toD_plain n S x d e) q
        exact ⟨by rw [PyData.plain]; exact h1, by rw [PyData.depth]; omega⟩
    · split at e
      · rename_i xs hS
        cases q : allD (toD n S) xs with
        | none => rw [q] at e; cases e
        | some ds =>
          rw [q] at e
          cases e
          obtain ⟨h1, h2⟩ := allD_plain (fun x d e => toD_plain n S x d e) q
          exact ⟨by rw [PyData.plain]; exact h1, by rw [PyData.depth]; omega⟩
      · cases e
    · cases e
      exact ⟨by rw [PyData.plain]; exact plainAll_ints _, by rw [PyData.depth, depthAll_ints]; omega⟩
    · cases e
def vEq (x y : Vl) (S : Sto) : Out Vl := match toD 60 S x, toD 60 S y with
  | some d, some e => .ok (.bl (PyData.eqv d e)) S
  | _, _ => .bad
def vNe (x y : Vl) (S : Sto) : Out Vl := match toD 60 S x, toD 60 S y with
  | some d, some e => .ok (.bl (!PyData.eqv d e)) S
  | _, _ => .bad
section
variable {N : Nms} {X : Cx}
theorem opm_eq (hu : X.A.units + 64 < cLine) : OpM N X (compareOp .Eq) vEq := by
  refine ⟨_, op_eqP hu, fun m S H x y u w Q E s rx ry h => ?_⟩
  unfold vEq at h
  split at h
  · rename_i d e q1 q2
    obtain ⟨a1, a2⟩ := toD_plain _ _ _ _ q1
    obtain ⟨b1, b2⟩ := toD_plain _ _ _ _ q2
    exact ⟨d, e, toD_dp s _ _ _ _ q1 rx, toD_dp s _ _ _ _ q2 ry, a1, b1, by omega, h.ok s (.bl _)⟩
  · exact h.elim
theorem opm_ne (hu : X.A.units + 64 < cLine) : OpM N X (compareOp .NotEq) vNe := by
  refine ⟨_, op_neP hu, fun m S H x y u w Q E s rx ry h => ?_⟩
  unfold vNe at h
  split at h
  · rename_i d e q1 q2
    obtain ⟨a1, a2⟩ := toD_plain _ _ _ _ q1
    obtain ⟨b1, b2⟩ := toD_plain _ _ _ _ q2
    exact ⟨d, e, toD_dp s _ _ _ _ q1 rx, toD_dp s _ _ _ _ q2 ry, a1, b1, by omega, h.ok s (.bl _)⟩
  · exact h.elim
end
/-! ### is -/
def isNon : Vl → Bool
  | .non => true
  | _ => false
def vIs : Vl → Vl → Sto → Out Vl
  | x, .non, S => .ok (.bl (isNon x)) S
  | .bl a, .bl b, S => .ok (.bl (decide (a = b))) S
  | _, _, _ => .bad
def vIsNot : Vl → Vl → Sto → Out Vl
  | x, .non, S => .ok (.bl (!isNon x)) S
  | .bl a, .bl b, S => .ok (.bl (!decide (a = b))) S
  | _, _, _ => .bad
section
variable {N : Nms} {X : Cx}
theorem isNon_of {K : PySem.W.Frag} {m : List Addr} {H : Hp} {x : Vl} {u : V} (r : Vr N K m H x u) : decide (u = .non) = isNon x := by
  cases r <;> first | rfl | (apply decide_eq_false; intro z; cases z)
theorem opm_is : OpM N X (compareOp .Is) vIs := by
  refine ⟨_, op_isN.or op_is_bl, fun m S H x y u w Q E s rx ry h => ?_⟩
  unfold vIs at h
  split at h
  · cases ry; exact .inl ⟨rfl, by rw [isNon_of rx]; exact h.ok s (.bl _)⟩
  · cases rx; cases ry; exact .inr ⟨_, _, rfl, rfl, h.ok s (.bl _)⟩
  · exact h.elim
theorem opm_isnot : OpM N X (compareOp .IsNot) vIsNot := by
  refine ⟨_, op_notN.or op_isnot_bl, fun m S H x y u w Q E s rx ry h => ?_⟩
  unfold vIsNot at h
  split at h
  · cases ry; exact .inl ⟨rfl, by rw [isNon_of rx]; exact h.ok s (.bl _)⟩
  · cases rx; cases ry; exact .inr ⟨_, _, rfl, rfl, h.ok s (.bl _)⟩
  · exact h.elim
end
/-! ### keys, dicts -/
def toK : Vl → Option Key
  | .int i => some (.inl i)
  | .str s => some (.inr s)
  | _ => none
def getK {κ : Type} [DecidableEq κ] (kvs : List (κ × Vl)) (k : κ) : Option Vl := (kvs.find? fun kv => decide (kv.1 = k)).map (·.2)
def setK {κ : Type} [DecidableEq κ] (kvs : List (κ × Vl)) (k : κ) (v : Vl) : List (κ × Vl) := if kvs.any (fun kv => decide (kv.1 = k)) then kvs.map fun kv => if kv.1 = k then (kv.1, v) else kv else kvs ++ [(k, v)]
end Nt

namespace Nt
open PySem PySem.Spec PyProof.Rows L2 Evl
section
variable {N : Nms} {K : PySem.W.Frag} {m : List Addr} {H : Hp} {κ : Type} [DecidableEq κ]
theorem KR.none : ∀ {xs : List (κ × Vl)} {ys : List (κ × V)} {k : κ}, KR N K m H xs ys → getK xs k = none → valV ys k = none
  | _, _, _, .nil, _ => rfl
  | (j, x) :: xs, _, k, .cons h r, e => by
    by_cases q : j = k
    · unfold getK at e
      rw [List.find?_cons_of_pos (by simpa using q)] at e
      cases e
    · rw [valV_neg (by simpa using q)]
      refine KR.none r ?_
      unfold getK at e ⊢
      rw [List.find?_cons_of_neg (by simpa using q)] at e
      exact e
theorem KR.some : ∀ {xs : List (κ × Vl)} {ys : List (κ × V)} {k : κ} {v : Vl}, KR N K m H xs ys → getK xs k = some v → ∃ u, valV ys k = Option.some u ∧ Vr N K m H v u
  | _, _, _, _, .nil, e => by cases e
  | (j, x) :: xs, _, k, v, .cons (u := u) h r, e => by
    by_cases q : j = k
    · unfold getK at e
      rw [List.find?_cons_of_pos (by simpa using q)] at e
      cases e
      exact ⟨u, valV_pos q, h⟩
    · rw [valV_neg (by simpa using q)]
      refine KR.some r ?_
      unfold getK at e ⊢
      rw [List.find?_cons_of_neg (by simpa using q)] at e
      exact e
theorem KR.any {k : κ} : ∀ {xs : List (κ × Vl)} {ys : List (κ × V)}, KR N K m H xs ys → xs.any (fun kv => decide (kv.1 = k)) = ys.any (fun kv => decide (kv.1 = k))
  | _, _, .nil => rfl
  | _, _, .cons h r => by rw [List.any_cons, List.any_cons, KR.any r]
theorem KR.append {k : κ} {v : Vl} {u : V} (rv : Vr N K m H v u) : ∀ {xs : List (κ × Vl)} {ys : List (κ × V)}, KR N K m H xs ys → KR N K m H (xs ++ [(k, v)]) (ys ++ [(k, u)])
  | _, _, .nil => .cons rv .nil
  | _, _, .cons h r => .cons h (KR.append rv r)
theorem KR.map {k : κ} {v : Vl} {u : V} (rv : Vr N K m H v u) : ∀ {xs : List (κ × Vl)} {ys : List (κ × V)}, KR N K m H xs ys → KR N K m H (xs.map fun kv => if kv.1 = k then (kv.1, v) else kv) (ys.map fun kv => if kv.1 = k then (kv.1, u) else kv)
  | _, _, .nil => .nil
  | (j, x) :: xs, _, .cons h r => by
    rw [List.map_cons, List.map_cons]
    by_cases q : j = k
    · rw [if_pos (by exact q), if_pos (by exact q)]; exact .cons rv (KR.map rv r)
    · rw [if_neg (by exact q), if_neg (by exact q)]; exact .cons h (KR.map rv r)
theorem KR.put {xs : List (κ × Vl)} {ys : List (κ × V)} {k : κ} {v : Vl} {u : V} (r : KR N K m H xs ys) (rv : Vr N K m H v u) : KR N K m H (setK xs k v) (putK ys k u) := by
  unfold setK putK
  rw [← r.any]
  split
  · exact r.map rv
  · exact r.append rv
end
def toKs (x : Vl) : Option (List Key) := match x with
  | .tup xs => allD toK xs
  | _ => none
theorem toK_kV {N : Nms} {K : PySem.W.Frag} {m : List Addr} {H : Hp} {x : Vl} {u : V} {k : Key} (e : toK x = some k) (r : Vr N K m H x u) : u = kV k := by
  cases x with
  | int i => cases e; cases r; rfl
  | str i => cases e; cases r; rfl
  | _ => cases e
theorem allK_kV {N : Nms} {K : PySem.W.Frag} {m : List Addr} {H : Hp} : ∀ {xs : List Vl} {us : List V} {ks : List Key}, allD toK xs = some ks → Vrs N K m H xs us → us = ks.map kV
  | [], _, _, e, .nil => by cases e; rfl
  | x :: xs, _, ks, e, .cons r rs => by
    unfold allD at e
    split at e
    · rename_i d ds' q1 q2
      cases e
      rw [toK_kV q1 r, allK_kV q2 rs]
      rfl
    · cases e
/-- what a dict holds at a key; none: there is no such dict -/
def dGet (S : Sto) (i : Nat) (x : Vl) : Option (Option Vl) := match S[i]? with
  | some (.dk kvs) => match toK x with
    | some k => some (getK kvs k)
    | none => none
  | some (.dt kvs) => match toKs x with
    | some ks => some (getK kvs ks)
    | none => none
  | _ => none
def dPut (S : Sto) (i : Nat) (x v : Vl) : Option Sto := match S[i]? with
  | some (.dk kvs) => match toK x with
    | some k => if kvs.length < 100000 then some (S.set i (.dk (setK kvs k v))) else none
    | none => none
  | some (.dt kvs) => match toKs x with
    | some ks => if kvs.length < 100000 then some (S.set i (.dt (setK kvs ks v))) else none
    | none => none
  | _ => none
section
variable {N : Nms} {K : PySem.W.Frag} {m : List Addr} {S S' : Sto} {H : Hp} {i : Nat} {a : Addr} {x v : Vl} {u w : V}
inductive OR (N : Nms) (K : PySem.W.Frag) (m : List Addr) (H : Hp) : Option Vl → Option V → Prop
  | none : OR N K m H .none .none
  | some {v : Vl} {w : V} : Vr N K m H v w → OR N K m H (.some v) (.some w)
theorem KR.or {κ : Type} [DecidableEq κ] {xs : List (κ × Vl)} {ys : List (κ × V)} {k : κ} (r : KR N K m H xs ys) : OR N K m H (getK xs k) (valV ys k) := by
  cases q : getK xs k with
  | none => rw [r.none q]; exact .none
  | some v =>
    obtain ⟨w, h1, h2⟩ := r.some q
    rw [h1]
    exact .some h2
theorem dGet_ok {o : Option Vl} (s : SR N K m S H) (hm : m[i]? = some a) (rx : Vr N K m H x u) (h : dGet S i x = some o) : ∃ o', DGet H a u o' ∧ OR N K m H o o' := by
  unfold dGet at h
  split at h
  · rename_i kvs hS
    split at h
    · rename_i k hk
      cases h
      obtain ⟨ys, h1, h2⟩ := s.dk hm hS
      cases toK_kV hk rx
      exact ⟨_, .k h1, h2.or⟩
    · cases h
  · rename_i kvs hS
    split at h
    · rename_i k hk
      cases h
      obtain ⟨ys, h1, h2⟩ := s.dt hm hS
      unfold toKs at hk
      split at hk
      · rename_i xs
        obtain ⟨b, us, rfl, h3, h4⟩ := rx.tup'
        cases allK_kV hk h4
        exact ⟨_, .t h1 h3, h2.or⟩
      · cases hk
    · cases h
  · cases h
theorem dPut_ok (s : SR N K m S H) (hm : m[i]? = some a) (rx : Vr N K m H x u) (rv : Vr N K m H v w) (h : dPut S i x v = some S') : ∃ H', DPut H a u w H' ∧ Ext K m H m H' ∧ SR N K m S' H' := by
  unfold dPut at h
  split at h
  · rename_i kvs hS
    split at h
    · rename_i k hk
      split at h
      · rename_i hl
        cases h
        obtain ⟨ys, h1, h2⟩ := s.dk hm hS
        cases toK_kV hk rx
        exact ⟨_, .k h1 (sz_lt (by rw [← h2.len]; exact hl)), Ext.upd h1 trivial, s.set hm h1 trivial (.dk (h2.put rv))⟩
      · cases h
    · cases h
  · rename_i kvs hS
    split at h
    · rename_i k hk
      split at h
      · rename_i hl
        cases h
        obtain ⟨ys, h1, h2⟩ := s.dt hm hS
        unfold toKs at hk
        split at hk
        · rename_i xs
          obtain ⟨b, us, rfl, h3, h4⟩ := rx.tup'
          cases allK_kV hk h4
          exact ⟨_, .t h1 h3 (sz_lt (by rw [← h2.len]; exact hl)), Ext.upd h1 trivial, s.set hm h1 trivial (.dt (h2.put rv))⟩
        · cases hk
      · cases h
    · cases h
  · cases h
end
/-! ### in -/
def seqIn (neg : Bool) (x : Vl) (ys : List Vl) (S : Sto) : Out Vl := match toD 58 S x, allD (toD 58 S) ys with
  | some d, some es => .ok (.bl (neg ^^ es.any fun z => PyData.eqv z d)) S
  | _, _ => .bad
def vInG (neg : Bool) (x y : Vl) (S : Sto) : Out Vl := match y with
  | .tup ys => seqIn neg x ys S
  | .ktp ys => seqIn neg x ys S
  | .scr ns => seqIn neg x (ns.map .int) S
  | .ref i => match S[i]? with
    | some (.lst ys) => seqIn neg x ys S
    | _ => match dGet S i x with
      | some o => .ok (.bl (neg ^^ o.isSome)) S
      | none => .bad
  | .str t => match x with
    | .str z => .ok (.bl (neg ^^ !(Builtin.Str.occurrences t z 0 t.length 1).isEmpty)) S
    | _ => .bad
  | _ => .bad
abbrev vIn := vInG false
abbrev vNotIn := vInG true
def rInP (K : PySem.W.Frag) (neg : Bool) : R2 := fun x y H Q => ∃ d ds, Dp K H x d ∧ (Dp K H y (.list ds) ∨ Dp K H y (.tuple ds)) ∧ d.plain = true ∧ PyData.plainAll ds = true ∧ d.depth ≤ 60 ∧ Q (.bl (neg ^^ ds.any fun z => PyData.eqv z d)) H
section
variable {N : Nms} {X : Cx}
theorem op_inP (hu : X.A.units + 64 < cLine) : OpR X (compareOp .In) (rInP X.K false) := by
  intro pins s σ H x y v u Q I rx ry h
  obtain ⟨d, ds, hd, he, sd, se, hk, q⟩ := h
  obtain ⟨as, r1⟩ := Dp.reads I d x v hd rx
  rw [Bool.false_xor] at q
  rcases he with he | he
  · obtain ⟨bs, r2⟩ := Dp.reads I (.list ds) y u he ry
    exact SeqAt.in_list_data r2 r1 se sd (by have := Nat.min_le_right (PyData.depthAll ds) d.depth; omega) ⟨.bl _, H, I, rfl, q⟩
  · obtain ⟨bs, r2⟩ := Dp.reads I (.tuple ds) y u he ry
    exact SeqAt.in_tuple_data r2 r1 se sd (by have := Nat.min_le_right (PyData.depthAll ds) d.depth; omega) ⟨.bl _, H, I, rfl, q⟩
theorem op_notInP (hu : X.A.units + 64 < cLine) : OpR X (compareOp .NotIn) (rInP X.K true) := by
  intro pins s σ H x y v u Q I rx ry h
  obtain ⟨d, ds, hd, he, sd, se, hk, q⟩ := h
  obtain ⟨as, r1⟩ := Dp.reads I d x v hd rx
  rw [Bool.true_xor] at q
  rcases he with he | he
  · obtain ⟨bs, r2⟩ := Dp.reads I (.list ds) y u he ry
    exact SeqAt.notIn_list_data r2 r1 se sd (by have := Nat.min_le_right (PyData.depthAll ds) d.depth; omega) ⟨.bl _, H, I, rfl, q⟩
  · obtain ⟨bs, r2⟩ := Dp.reads I (.tuple ds) y u he ry
    exact SeqAt.notIn_tuple_data r2 r1 se sd (by have := Nat.min_le_right (PyData.depthAll ds) d.depth; omega) ⟨.bl _, H, I, rfl, q⟩
def rDIn (neg : Bool) : R2 := fun y x H Q => ∃ a o, x = .ref a ∧ DGet H a y o ∧ Q (.bl (neg ^^ o.isSome)) H
theorem op_din (hu : X.A.units + 64 < cLine) : OpR X (compareOp .In) (rDIn false) := by
  intro pins s σ H y x v u Q I ry rx h
  obtain ⟨a, o, rfl, g, q⟩ := h
  cases rx
  rw [Bool.false_xor] at q
  exact d_in (by omega) I g ry fun s3 I3 => ⟨.bl o.isSome, H, I3, rfl, q⟩
theorem op_dnotin (hu : X.A.units + 64 < cLine) : OpR X (compareOp .NotIn) (rDIn true) := by
  intro pins s σ H y x v u Q I ry rx h
  obtain ⟨a, o, rfl, g, q⟩ := h
  cases rx
  rw [Bool.true_xor] at q
  exact d_notIn (by omega) I g ry fun s3 I3 => ⟨.bl (!o.isSome), H, I3, rfl, q⟩
def rInS (neg : Bool) : R2 := fun x y H Q => ∃ i j, x = .str i ∧ y = .str j ∧ Q (.bl (neg ^^ !(Builtin.Str.occurrences j i 0 j.length 1).isEmpty)) H
theorem ops_in {K : PySem.W.Frag} {neg : Bool} : OpS N K (rOr (rInP K neg) (rOr (rDIn neg) (rInS neg))) (vInG neg) := fun m S H x y u w Q E s rx ry h => by
  have seq : ∀ (ys : List Vl) (us : Addr × List V), (SqL K H us.1 us.2 ∨ SqT K H us.1 us.2) → w = .ref us.1 → Vrs N K m H ys us.2 → Post N K (Vr N K) m H Q E (seqIn neg x ys S) → rInP K neg u w H Q := fun ys us hs e rr h => by
    subst e
    unfold seqIn at h
    split at h
    · rename_i d es q1 q2
      obtain ⟨a1, a2⟩ := toD_plain _ _ _ _ q1
      obtain ⟨b1, b2⟩ := allD_plain (fun x d e => toD_plain 58 S x d e) q2
      have da := allD_dp (fun x u d e r => toD_dp s 58 x u d e r) q2 rr
      refine ⟨d, es, toD_dp s _ _ _ _ q1 rx, ?_, a1, b1, by omega, h.ok s (.bl _)⟩
      rcases hs with hs | hs
      · exact .inl (.lst hs da)
      · exact .inr (.tup hs da)
    · exact h.elim
  unfold vInG at h
  split at h
  · obtain ⟨a, ys, rfl, h1, h2⟩ := ry.asT rfl
    exact .inl (seq _ (a, ys) (.inr h1) rfl h2 h)
  · obtain ⟨a, ys, rfl, h1, h2⟩ := ry.asT rfl
    exact .inl (seq _ (a, ys) (.inr h1) rfl h2 h)
  · obtain ⟨a, rfl, h1⟩ := ry.scr'
    exact .inl (seq _ (a, _) (.inl h1.l) rfl (Vrs.ofInts _) h)
  · obtain ⟨a, rfl, h1⟩ := ry.ref'
    split at h
    · rename_i ys hS
      obtain ⟨us, h2, h3⟩ := s.lst h1 hS
      exact .inl (seq _ (a, us) (.inl (sq_of h2)) rfl h3 h)
    · split at h
      · rename_i o ho
        obtain ⟨o', g, q⟩ := dGet_ok s h1 rx ho
        refine .inr (.inl ⟨a, o', rfl, g, ?_⟩)
        cases q with
        | none => exact h.ok s (.bl _)
        | some _ => exact h.ok s (.bl _)
      · exact h.elim
  · split at h
    · cases rx; cases ry; exact .inr (.inr ⟨_, _, rfl, rfl, h.ok s (.bl _)⟩)
    · exact h.elim
  · exact h.elim
theorem opm_in (hu : X.A.units + 64 < cLine) : OpM N X (compareOp .In) vIn := ⟨_, (op_inP hu).or ((op_din hu).or (r' := rInS false) (fun pins s σ H x y v u Q I rx ry q => op_in_str pins s σ H x y v u Q I rx ry (by
  obtain ⟨i, j, e1, e2, q⟩ := q
  rw [Bool.false_xor] at q
  exact ⟨i, j, e1, e2, q⟩))), ops_in⟩
theorem opm_notin (hu : X.A.units + 64 < cLine) : OpM N X (compareOp .NotIn) vNotIn := ⟨_, (op_notInP hu).or ((op_dnotin hu).or (r' := rInS true) (fun pins s σ H x y v u Q I rx ry q => op_notIn_str pins s σ H x y v u Q I rx ry (by
  obtain ⟨i, j, e1, e2, q⟩ := q
  rw [Bool.true_xor] at q
  exact ⟨i, j, e1, e2, q⟩))), ops_in⟩
end
end Nt

namespace Nt
open PySem PySem.Spec PyProof.Rows L2 Evl
/-! ### subscripts -/
def cdI (cs : List Nat) (i : Int) : Option Vl := (atI cs i).map fun c => .str ⟨#[c]⟩
def vIx (x y : Vl) (S : Sto) : Out Vl := match y with
  | .int j => match x with
    | .tup xs => match atI xs j with
      | some v => .ok v S
      | none => .bad
    | .ktp xs => match atI xs j with
      | some v => .ok v S
      | none => .bad
    | .scr ns => match atI ns j with
      | some v => .ok (.int v) S
      | none => .bad
    | .str z => if z.length ≤ 100000 then match atI z.cps.toList j with
      | some c => .ok (.str ⟨#[c]⟩) S
      | none => .bad
      else .bad
    | .ref i => match S[i]? with
      | some (.lst xs) => match atI xs j with
        | some v => .ok v S
        | none => .bad
      | _ => match dGet S i y with
        | some (some v) => .ok v S
        | _ => .bad
    | _ => .bad
  | _ => match x with
    | .ref i => match dGet S i y with
      | some (some v) => .ok v S
      | _ => .bad
    | _ => .bad
structure IxM (N : Nms) (X : Cx) (g : Vl → Vl → Sto → Out Vl) : Prop where
  ex : ∃ r, IxR X r ∧ OpS N X.K r g
section
variable {N : Nms} {X : Cx} {W : L2.St → XK} {e a b c : Expr} {fa fb fc : XE'} {pos p : Pos} {x : Str}
def rIxDG : R2 := fun x y H Q => ∃ a v, x = .ref a ∧ DGet H a y (some v) ∧ Q v H
theorem ix_dict (hu : X.A.units + 64 < cLine) : IxR X rIxDG := by
  intro value slice pins s σ H x y v u Q I rx ry h hs
  obtain ⟨a, v0, rfl, g, q⟩ := h
  obtain rfl : v = Value.ref a := rx
  exact tail_any (dict_typeIs I g) slot_dict_getitem.lookup (d_getItem (by omega) I g ry fun w' s3 I3 rw' => ⟨v0, H, I3, rw', q⟩) hs
theorem Vrs.atI {K : PySem.W.Frag} {m : List Addr} {H : Hp} {xs : List Vl} {us : List V} {i : Int} {v : Vl} (r : Vrs N K m H xs us) (e : L2.atI xs i = some v) : ∃ w, L2.atI us i = some w ∧ Vr N K m H v w := by
  unfold L2.atI at e ⊢
  rw [← r.len]
  cases q : ixN xs.length i with
  | none => rw [q] at e; cases e
  | some j =>
    rw [q] at e
    exact r.get e
theorem atI_ints {ns : List Int} {i v : Int} (e : L2.atI ns i = some v) : L2.atI (ns.map V.int) i = some (.int v) := by
  unfold L2.atI at e ⊢
  rw [List.length_map]
  cases q : ixN ns.length i with
  | none => rw [q] at e; cases e
  | some j =>
    rw [q] at e
    show (ns.map V.int)[j]? = _
    rw [List.getElem?_map, show ns[j]? = some v from e]
    rfl
theorem ixm (hu : X.A.units + 64 < cLine) : IxM N X vIx := by
  refine ⟨_, (ix_list.or (ix_tup.or ix_str)).or (ix_dict hu), fun m S H x y u w Q E s rx ry h => ?_⟩
  have dc : ∀ i, x = .ref i → Post N X.K (Vr N X.K) m H Q E (match dGet S i y with | some (some v) => .ok v S | _ => .bad) → rIxDG u w H Q := fun i hx hh => by
    clear h
    subst hx
    obtain ⟨a, rfl, h1⟩ := rx.ref'
    split at hh
    · rename_i v hv
      obtain ⟨o', g, q⟩ := dGet_ok s h1 ry hv
      cases q with
      | some r => exact ⟨a, _, rfl, g, hh.ok s r⟩
    · exact hh.elim
  unfold vIx at h
  split at h
  · cases ry
    split at h
    · split at h
      · rename_i v hv
        obtain ⟨a, ys, rfl, h1, h2⟩ := rx.asT rfl
        obtain ⟨w', h3, h4⟩ := h2.atI hv
        exact .inl (.inr (.inl ⟨a, ys, _, w', rfl, rfl, h1, h3, h.ok s h4⟩))
      · exact h.elim
    · split at h
      · rename_i v hv
        obtain ⟨a, ys, rfl, h1, h2⟩ := rx.asT rfl
        obtain ⟨w', h3, h4⟩ := h2.atI hv
        exact .inl (.inr (.inl ⟨a, ys, _, w', rfl, rfl, h1, h3, h.ok s h4⟩))
      · exact h.elim
    · split at h
      · rename_i v hv
        obtain ⟨a, rfl, h1⟩ := rx.scr'
        exact .inl (.inl ⟨a, _, _, _, rfl, rfl, h1.l, atI_ints hv, h.ok s (.int _)⟩)
      · exact h.elim
    · split at h
      · rename_i hl
        split at h
        · rename_i v hv
          cases rx
          exact .inl (.inr (.inr ⟨_, _, _, rfl, rfl, sz_of hl, hv, h.ok s (.str _)⟩))
        · exact h.elim
      · exact h.elim
    · rename_i i
      split at h
      · rename_i xs hS
        split at h
        · rename_i v hv
          obtain ⟨a, rfl, h1⟩ := rx.ref'
          obtain ⟨ys, h2, h3⟩ := s.lst h1 hS
          obtain ⟨w', h4, h5⟩ := h3.atI hv
          exact .inl (.inl ⟨a, ys, _, w', rfl, rfl, sq_of h2, h4, h.ok s h5⟩)
        · exact h.elim
      · exact .inr (dc i rfl h)
    · exact h.elim
  · split at h
    · exact .inr (dc _ rfl h)
    · exact h.elim
theorem se_ix {g : Vl → Vl → Sto → Out Vl} (hr : IxM N X g) (ha : SE N X W a fa) (hb : SE N X W b fb) (hs : PlainIx b) : SE N X W (.Subscript a b pos) (xOp g fa fb) := by
  obtain ⟨r, h1, h2⟩ := hr.ex
  obtain ⟨ta, p1, s1⟩ := ha.ex
  obtain ⟨tb, p2, s2⟩ := hb.ex
  exact ⟨_, pe_ix h1 p1 p2 hs, sim_op h2 s1 s2⟩
/-! stores -/
def vSetI (o i v : Vl) (S : Sto) : Out Unit := match o with
  | .ref j => match S[j]? with
    | some (.lst xs) => match i with
      | .int k => match ixN xs.length k with
        | some q => .ok () (S.set j (.lst (xs.set q v)))
        | none => .bad
      | _ => .bad
    | _ => match dPut S j i v with
      | some S' => .ok () S'
      | none => .bad
  | _ => .bad
theorem setm (hu : X.A.units + 64 < cLine) : SetM N X vSetI := by
  refine ⟨fun o i v H Q => rSetL o i v H Q ∨ ∃ a H', o = .ref a ∧ DPut H a i v H' ∧ Q H', fun pins s σ H o i v ov iv u Q I ro ri rv h => ?_, fun m S H o i v ou iu vu Q E s ro ri rv h => ?_⟩
  · rcases h with h | ⟨a, H', rfl, g, q⟩
    · exact set_list pins s σ H o i v ov iv u Q I ro ri rv h
    · obtain rfl : ov = Value.ref a := ro
      exact d_setItem (by omega) I g ri rv fun s4 I4 => ⟨H', I4, q⟩
  · unfold vSetI at h
    split at h
    · obtain ⟨a, rfl, h1⟩ := ro.ref'
      split at h
      · rename_i xs hS
        split at h
        · split at h
          · rename_i q hq
            cases ri
            obtain ⟨ys, h2, h3⟩ := s.lst h1 hS
            exact .inl ⟨a, ys, _, q, rfl, rfl, h2, by rw [← h3.len]; exact hq, h.to (u := ()) (Ext.upd h2 trivial) (s.set h1 h2 trivial (.lst (h3.set q rv))) trivial⟩
          · exact h.elim
        · exact h.elim
      · split at h
        · rename_i S' hS'
          obtain ⟨H', g, e, s'⟩ := dPut_ok s h1 ri rv hS'
          exact .inr ⟨a, H', rfl, g, h.to (u := ()) e s' trivial⟩
        · exact h.elim
    · exact h.elim
theorem ss_dput {o i value : Expr} {fo fi fv : XE'} {pos' : Pos} (hu : X.A.units + 64 < cLine) (ho : SE N X W o fo) (hi : SE N X W i fi) (hv : SE N X W value fv) (ha : ∀ v, assign (.Subscript o i pos') X.env v = (do
      let ov ← holding [v] (eval o X.env)
      let iv ← holding [v, ov] (eval i X.env)
      standAt pos'
      holding [v, ov, iv] (setItem ov iv v)
      release [v, ov, iv] []) := by intro _; rfl) (hs : swapsWithSole [.Subscript o i pos'] value pos.line X.env = pure false := by rfl) (hw : swappedStores [.Subscript o i pos'] value X.env = pure none := by rfl)
    (h1 : (assignEach [.Subscript o i pos'] X.env).map (·.2) = [assign (.Subscript o i pos') X.env] := by rfl) : SS N X W (.Assign [.Subscript o i pos'] value pos) (zAsg fv (gmSub fo fi vSetI)) :=
  ss_asg hv (sg_sub (setm hu) ho hi ha) hs hw h1
/-! slices -/
def oNone : XO := fun _ S => .ok none S
def oSome (a : XE') : XO := fun env S => (a env S).bind fun v S1 => match v with
  | .int i => .ok (some i) S1
  | _ => .bad
theorem so_none : SO N X W none oNone := ⟨_, po_none, fun m S H env σ Q s er h => h.ok s rfl⟩
theorem so_some (ha : SE N X W a fa) : SO N X W (some a) (oSome fa) := by
  obtain ⟨ta, p1, s1⟩ := ha.ex
  refine ⟨_, po_some p1, fun m S H env σ Q s er h => s1.step s er h fun v S1 m1 H1 u e1 sr1 r1 er1 h1 => ?_⟩
  split at h1
  · cases r1; exact ⟨_, rfl, h1.ok sr1 rfl⟩
  · exact h1.elim
def cutL {α : Type} (xs : List α) (lo hi : Option Int) : List α := (xs.drop (HT.sIx xs.length 0 lo)).take (HT.sIx xs.length xs.length hi - HT.sIx xs.length 0 lo)
theorem Vrs.cut {K : PySem.W.Frag} {m : List Addr} {H : Hp} {xs : List Vl} {us : List V} (r : Vrs N K m H xs us) (lo hi : Option Int) : Vrs N K m H (cutL xs lo hi) (cutV us lo hi) := by
  unfold cutL cutV
  rw [r.len]
  exact (r.drop _).take _
def vSl (x : Vl) (lo hi : Option Int) (S : Sto) : Out Vl := match x with
  | .ref i => match S[i]? with
    | some (.lst xs) => .ok (.ref S.length) (S ++ [.lst (cutL xs lo hi)])
    | _ => .bad
  | .scr ns => .ok (.ref S.length) (S ++ [.lst (cutL (ns.map .int) lo hi)])
  | .tup xs => .ok (.tup (cutL xs lo hi)) S
  | .str z => if z.length ≤ 100000 then .ok (.str (cutS z lo hi)) S else .bad
  | _ => .bad
def xSl (a : XE') (lo hi : XO) : XE' := fun env S => (a env S).bind fun x S1 => (lo env S1).bind fun l S2 => (hi env S2).bind fun u S3 => vSl x l u S3
theorem slr_or {r r' : V → Option Int → Option Int → Hp → VK → Prop} (h : SlR X r) (h' : SlR X r') : SlR X (fun x l u H Q => r x l u H Q ∨ r' x l u H Q) := by
  intro pins s σ H x v vl vu lo hi sl Q I rx hs pl pu q
  rcases q with q | q
  · exact h pins s σ H x v vl vu lo hi sl Q I rx hs pl pu q
  · exact h' pins s σ H x v vl vu lo hi sl Q I rx hs pl pu q
theorem se_slice {lo hi : Option Expr} {fl fh : XO} {p2 : Pos} (he : SE N X W e fa) (hl : SO N X W lo fl) (hh : SO N X W hi fh) : SE N X W (.Subscript e (.Slice lo hi none p2) pos) (xSl fa fl fh) := by
  obtain ⟨ta, p1, s1⟩ := he.ex
  obtain ⟨tl, p2', s2⟩ := hl.ex
  obtain ⟨th, p3, s3⟩ := hh.ex
  refine ⟨_, pe_slice (slr_or sl_list (slr_or sl_tupA sl_str)) p1 p2' p3, fun m S H env σ Q s er h => s1.step s er h fun x S1 m1 H1 u e1 sr1 r1 er1 h1 => ?_⟩
  refine s2.step sr1 er1 h1 fun l S2 m2 H2 l' e2 sr2 r2 er2 h2 => ?_
  refine s3.step sr2 er2 h2 fun k S3 m3 H3 k' e3 sr3 r3 er3 h3 => ?_
  cases r2
  cases r3
  have rx := r1.mono (e2.trans e3)
  unfold vSl at h3
  split at h3
  · split at h3
    · rename_i xs hS
      obtain ⟨a, rfl, h4⟩ := rx.ref'
      obtain ⟨ys, h5, h6⟩ := sr3.lst h4 hS
      exact .inl ⟨a, ys, rfl, sq_of h5, fun p hp => h3.to (Ext.app (Same.new hp)) (sr3.new (Same.new hp) hp upd_same (.lst (h6.cut l k))) sr3.ref_new⟩
    · exact h3.elim
  · obtain ⟨a, rfl, h4⟩ := rx.scr'
    exact .inl ⟨a, _, rfl, h4.l, fun p hp => h3.to (Ext.app (Same.new hp)) (sr3.new (Same.new hp) hp upd_same (.lst ((Vrs.ofInts _).cut l k))) sr3.ref_new⟩
  · rename_i xs
    obtain ⟨a, ys, rfl, h4, h5⟩ := rx.tup'
    refine .inr (.inl ⟨a, ys, rfl, st_of h4, fun hw => ?_, fun _ p hp => ?_⟩)
    · have e0 : cutL xs l k = xs := by
        unfold cutL
        rw [h5.len, hw.1, hw.2, Nat.sub_zero, List.drop_zero, ← h5.len, List.take_length]
      rw [e0] at h3
      exact h3.ok sr3 (.tup h4 h5)
    · have ex : Ext X.K m3 H3 m3 (upd H3 p (.tup (cutV ys l k))) := Ext.same (Same.new hp)
      exact h3.to ex (sr3.same (Same.new hp)) (.tup upd_same ((h5.cut l k).mono ex))
  · split at h3
    · rename_i hz
      cases rx
      exact .inr (.inr ⟨_, rfl, sz_of hz, h3.ok sr3 (.str _)⟩)
    · exact h3.elim
  · exact h3.elim
/-! a written table -/
def vInT (neg : Bool) (k : Nat) (tb : List (Str × Vl)) (x y : Vl) (S : Sto) : Out Vl := match x, y with
  | .str z, .fn k' => if k' = k then .ok (.bl (neg ^^ (tb.lookup z).isSome)) S else .bad
  | _, _ => .bad
def vIxT (k : Nat) (tb : List (Str × Vl)) (x y : Vl) (S : Sto) : Out Vl := match x, y with
  | .fn k', .str z => if k' = k then match tb.lookup z with
    | some v => .ok v S
    | none => .bad
    else .bad
  | _, _ => .bad
/-- the values of a table, whatever the heap is -/
inductive TR (N : Nms) (K : PySem.W.Frag) : List (Str × Vl) → List (Str × V) → Prop
  | nil : TR N K [] []
  | cons {z : Str} {x : Vl} {u : V} {l : List (Str × Vl)} {l' : List (Str × V)} : (∀ m H, Vr N K m H x u) → TR N K l l' → TR N K ((z, x) :: l) ((z, u) :: l')
theorem TR.look {K : PySem.W.Frag} {z : Str} : ∀ {l : List (Str × Vl)} {l' : List (Str × V)}, TR N K l l' → (l.lookup z = none ∧ l'.lookup z = none) ∨ ∃ x u, l.lookup z = some x ∧ l'.lookup z = some u ∧ ∀ m H, Vr N K m H x u
  | _, _, .nil => .inl ⟨rfl, rfl⟩
  | (y, x) :: l, _, .cons h r => by
    rw [List.lookup_cons, List.lookup_cons]
    cases q : z == y with
    | true => exact .inr ⟨_, _, rfl, rfl, h⟩
    | false => exact TR.look r
theorem opm_inT {k : Nat} {tb : List (Str × Vl)} {kvs : List (Str × V)} (D : DTab X.K X.w (He.ga X.K (N.g k)) kvs) (T : TR N X.K tb kvs) : OpM N X (compareOp .In) (vInT false k tb) := by
  refine ⟨_, op_in_tab D, fun m S H x y u w Q E s rx ry h => ?_⟩
  unfold vInT at h
  split at h
  · rename_i z k'
    split at h
    · rename_i hk
      subst hk
      cases rx; cases ry
      refine ⟨z, rfl, rfl, ?_⟩
      rcases T.look (z := z) with ⟨h1, h2⟩ | ⟨x', u', h1, h2, _⟩
      · rw [h2]; rw [h1] at h; exact h.ok s (.bl _)
      · rw [h2]; rw [h1] at h; exact h.ok s (.bl _)
    · exact h.elim
  · exact h.elim
theorem opm_niT {k : Nat} {tb : List (Str × Vl)} {kvs : List (Str × V)} (D : DTab X.K X.w (He.ga X.K (N.g k)) kvs) (T : TR N X.K tb kvs) : OpM N X (compareOp .NotIn) (vInT true k tb) := by
  refine ⟨_, op_ni_tab D, fun m S H x y u w Q E s rx ry h => ?_⟩
  unfold vInT at h
  split at h
  · rename_i z k'
    split at h
    · rename_i hk
      subst hk
      cases rx; cases ry
      refine ⟨z, rfl, rfl, ?_⟩
      rcases T.look (z := z) with ⟨h1, h2⟩ | ⟨x', u', h1, h2, _⟩
      · rw [h2]; rw [h1] at h; exact h.ok s (.bl _)
      · rw [h2]; rw [h1] at h; exact h.ok s (.bl _)
    · exact h.elim
  · exact h.elim
theorem ixmT {k : Nat} {tb : List (Str × Vl)} {kvs : List (Str × V)} (D : DTab X.K X.w (He.ga X.K (N.g k)) kvs) (T : TR N X.K tb kvs) : IxM N X (vIxT k tb) := by
  refine ⟨_, ix_tab D, fun m S H x y u w Q E s rx ry h => ?_⟩
  unfold vIxT at h
  split at h
  · rename_i k' z
    split at h
    · rename_i hk
      subst hk
      cases rx; cases ry
      rcases T.look (z := z) with ⟨h1, h2⟩ | ⟨x', u', h1, h2, h3⟩
      · rw [h1] at h; exact h.elim
      · rw [h1] at h; exact ⟨z, u', rfl, rfl, h2, h.ok s (h3 m H)⟩
    · exact h.elim
  · exact h.elim
end
end Nt

namespace Nt
open PySem PySem.Spec PyProof.Rows L2 Evl
/-! ### what is walked -/
def itL (j : Nat) (n : Nat) : Itm := ⟨n, fun i S => match S[j]? with
  | some (.lst xs) => match xs[i]? with
    | some x => .yld x S
    | none => .stop
  | _ => .bad⟩
def itT (xs : List Vl) : Itm := ⟨xs.length, fun i S => match xs[i]? with
  | some x => .yld x S
  | none => .stop⟩
def itR (lo : Int) (n : Nat) : Itm := ⟨n, fun i S => if i < n then .yld (.int (lo + (i : Nat))) S else .stop⟩
def itS (z : Str) : Itm := ⟨z.cps.size, fun i S => match z.cps[i]? with
  | some c => .yld (.str ⟨#[c]⟩) S
  | none => .stop⟩
def vIter (x : Vl) (S : Sto) : Out Itm := match x with
  | .tup xs => .ok (itT xs) S
  | .ktp xs => .ok (itT xs) S
  | .scr ns => .ok (itT (ns.map .int)) S
  | .str z => .ok (itS z) S
  | .ref j => match S[j]? with
    | some (.lst xs) => .ok (itL j xs.length) S
    | _ => .bad
  | _ => .bad
def iAny (a : XE') : En → Sto → Out Itm := fun env S => (a env S).bind vIter
section
variable {N : Nms} {K : PySem.W.Frag} {m : List Addr} {H : Hp}
theorem itr_list {j : Nat} {n : Nat} {a : Addr} (hm : m[j]? = some a) : ItR N K m H (itL j n) (Itl K a) := fun m' S H' i e s => by
  have hm' := e.pre _ _ hm
  show YdR N K m' H' (Itl K a) i (match S[j]? with
    | some (.lst xs) => match xs[i]? with
      | some x => .yld x S
      | none => .stop
    | _ => .bad)
  split
  · rename_i xs hS
    obtain ⟨ys, h1, h2⟩ := s.lst hm' hS
    split
    · rename_i x hx
      obtain ⟨w, h3, h4⟩ := h2.get hx
      refine ⟨⟨ys, w, sq_of h1, h3⟩, fun u H'' hy => ?_⟩
      obtain ⟨rfl, hy⟩ := hy
      have := hy ys (sq_of h1)
      rw [h3] at this
      cases this
      exact ⟨m', Ext.refl, s, h4⟩
    · rename_i hx
      exact ⟨ys, sq_of h1, by rw [← h2.len]; exact List.getElem?_eq_none_iff.mp hx⟩
  · exact trivial
theorem itr_tup {xs : List Vl} {ys : List V} {a : Addr} (h1 : SqT K H a ys) (h2 : Vrs N K m H xs ys) : ItR N K m H (itT xs) (Itt K a) := fun m' S H' i e s => by
  have h1' := e.ktp _ _ h1
  have h2' := h2.mono e
  show YdR N K m' H' (Itt K a) i (match xs[i]? with
    | some x => .yld x S
    | none => .stop)
  split
  · rename_i x hx
    obtain ⟨w, h3, h4⟩ := h2'.get hx
    refine ⟨⟨ys, w, h1', h3⟩, fun u H'' hy => ?_⟩
    obtain ⟨rfl, hy⟩ := hy
    have := hy ys h1'
    rw [h3] at this
    cases this
    exact ⟨m', Ext.refl, s, h4⟩
  · rename_i hx
    exact ⟨ys, h1', by rw [← h2.len]; exact List.getElem?_eq_none_iff.mp hx⟩
theorem itr_scr {ns : List Int} {a : Addr} (h1 : SqF K H a (ns.map V.int)) : ItR N K m H (itT (ns.map .int)) (Itl K a) := fun m' S H' i e s => by
  have h1' := (e.scr _ _ h1).l
  have h2' : Vrs N K m' H' (ns.map Vl.int) (ns.map V.int) := Vrs.ofInts ns
  show YdR N K m' H' (Itl K a) i (match (ns.map Vl.int)[i]? with
    | some x => .yld x S
    | none => .stop)
  split
  · rename_i x hx
    obtain ⟨w, h3, h4⟩ := h2'.get hx
    refine ⟨⟨_, w, h1', h3⟩, fun u H'' hy => ?_⟩
    obtain ⟨rfl, hy⟩ := hy
    have := hy _ h1'
    rw [h3] at this
    cases this
    exact ⟨m', Ext.refl, s, h4⟩
  · rename_i hx
    exact ⟨_, h1', by rw [← h2'.len]; exact List.getElem?_eq_none_iff.mp hx⟩
theorem itr_str {z : Str} : ItR N K m H (itS z) (Its z) := fun m' S H' i e s => by
  show YdR N K m' H' (Its z) i (match z.cps[i]? with
    | some c => .yld (.str ⟨#[c]⟩) S
    | none => .stop)
  split
  · rename_i c hx
    refine ⟨(Array.getElem?_eq_some_iff.mp hx).1, fun u H'' hy => ?_⟩
    obtain ⟨rfl, c', hc, rfl⟩ := hy
    rw [hx] at hc
    cases hc
    exact ⟨m', Ext.refl, s, .str _⟩
  · rename_i hx
    exact Array.getElem?_eq_none_iff.mp hx
theorem itr_rng {lo : Int} {n : Nat} : ItR N K m H (itR lo n) (Itr lo n) := fun m' S H' i e s => by
  show YdR N K m' H' (Itr lo n) i (if i < n then .yld (.int (lo + (i : Nat))) S else .stop)
  split
  · rename_i hx
    refine ⟨hx, fun u H'' hy => ?_⟩
    obtain ⟨rfl, rfl⟩ := hy
    exact ⟨m', Ext.refl, s, .int _⟩
  · rename_i hx
    exact Nat.le_of_not_lt hx
end
section
variable {N : Nms} {X : Cx} {W : L2.St → XK} {e a b c tg : Expr} {fa fb : XE'} {f : XA} {pos p : Pos}
theorem pi_or {iter : Expr} {t u : TI} (h1 : PI X tg iter t) (h2 : PI X tg iter u) : PI X tg iter (fun σ H R => t σ H R ∨ u σ H R) := ⟨fun pins s σ H R I h => by
  rcases h with h | h
  · exact h1.run pins s σ H R I h
  · exact h2.run pins s σ H R I h⟩
theorem si_any (ha : SE N X W a fa) : SI N X W tg a (iAny fa) := by
  obtain ⟨ta, p1, s1⟩ := ha.ex
  refine ⟨_, pi_or (pi_list p1) (pi_or (pi_tup p1) (pi_str p1)), fun m S H env σ R s er h => ?_⟩
  have h' : Post N X.K (ItR N X.K) m H R (W σ) ((fa env S).bind vIter) := h
  cases q : fa env S with
  | ok x S1 =>
    rw [q] at h'
    have h2 : Post N X.K (ItR N X.K) m H R (W σ) (vIter x S1) := h'
    have go : ∀ (P : V → Hp → Prop), (∀ m' H' u, Ext X.K m H m' H' → SR N X.K m' S1 H' → Vr N X.K m' H' x u → P u H') → ta σ H P := fun P hP => s1 m S H env σ P s er (by rw [q]; exact hP)
    unfold vIter at h2
    split at h2
    · refine .inr (.inl (go _ fun m' H' u e' s' r' => ?_))
      obtain ⟨a', ys, rfl, h3, h4⟩ := r'.asT rfl
      exact ⟨a', rfl, ⟨ys, h3⟩, h2.to e' s' (itr_tup h3 h4)⟩
    · refine .inr (.inl (go _ fun m' H' u e' s' r' => ?_))
      obtain ⟨a', ys, rfl, h3, h4⟩ := r'.asT rfl
      exact ⟨a', rfl, ⟨ys, h3⟩, h2.to e' s' (itr_tup h3 h4)⟩
    · refine .inl (go _ fun m' H' u e' s' r' => ?_)
      obtain ⟨a', rfl, h3⟩ := r'.scr'
      exact ⟨a', rfl, ⟨_, h3.l⟩, h2.to e' s' (itr_scr h3)⟩
    · refine .inr (.inr (go _ fun m' H' u e' s' r' => ?_))
      cases r'
      exact ⟨_, rfl, h2.to e' s' itr_str⟩
    · rename_i j
      split at h2
      · rename_i xs hS
        refine .inl (go _ fun m' H' u e' s' r' => ?_)
        obtain ⟨a', rfl, h3⟩ := r'.ref'
        obtain ⟨ys, h4, h5⟩ := s'.lst h3 hS
        exact ⟨a', rfl, ⟨ys, sq_of h4⟩, h2.to e' s' (itr_list h3)⟩
      · exact h2.elim
    · exact h2.elim
  | err c' x' S1 =>
    rw [q] at h'
    exact .inl (s1 m S H env σ _ s er (by rw [q]; exact h'))
  | bad => rw [q] at h'; exact h'.elim
def iRange1 (a : XA) : En → Sto → Out Itm := fun env S => (a env S).bind fun vs S1 => match vs with
  | [.int j] => if -(2 ^ 62) ≤ j ∧ j < 2 ^ 62 then .ok (itR 0 j.toNat) S1 else .bad
  | _ => .bad
def iRange2 (a : XA) : En → Sto → Out Itm := fun env S => (a env S).bind fun vs S1 => match vs with
  | [.int i, .int j] => if -(2 ^ 62) ≤ i ∧ i < 2 ^ 62 ∧ -(2 ^ 62) ≤ j ∧ j < 2 ^ 62 then .ok (itR i (j - i).toNat) S1 else .bad
  | _ => .bad
theorem si_range1 (hg : Gl X "range") (hm : X.mg "range" = none) (ha : SA N X W [a] f) (hs : starEach [a] X.env = [(false, eval a X.env)] := by rfl) : SI N X W tg (.Call (.Name "range" p) [a] [] pos) (iRange1 f) := by
  obtain ⟨ta, p1, s1⟩ := ha.ex
  refine ⟨_, pi_range1 hg hm p1 hs, fun m S H env σ R s er h => s1.step s er h fun vs S1 m1 H1 us e1 sr1 r1 er1 h1 => ?_⟩
  split at h1
  · split at h1
    · rename_i j hj
      obtain ⟨u, ws, rfl, ru, rw'⟩ := r1.cons'
      cases rw'.nil'
      cases ru
      exact ⟨j, rfl, hj.1, hj.2, h1.ok sr1 itr_rng⟩
    · exact h1.elim
  · exact h1.elim
theorem si_range2 (hg : Gl X "range") (hm : X.mg "range" = none) (ha : SA N X W [a, b] f) (hs : starEach [a, b] X.env = [(false, eval a X.env), (false, eval b X.env)] := by rfl) (hs2 : starEach [b] X.env = [(false, eval b X.env)] := by rfl) : SI N X W tg (.Call (.Name "range" p) [a, b] [] pos) (iRange2 f) := by
  obtain ⟨ta, p1, s1⟩ := ha.ex
  refine ⟨_, pi_range2 hg hm p1 hs hs2, fun m S H env σ R s er h => s1.step s er h fun vs S1 m1 H1 us e1 sr1 r1 er1 h1 => ?_⟩
  split at h1
  · split at h1
    · rename_i i j hj
      obtain ⟨u, ws, rfl, ru, rw'⟩ := r1.cons'
      obtain ⟨u2, ws2, rfl, ru2, rw2⟩ := rw'.cons'
      cases rw2.nil'
      cases ru
      cases ru2
      exact ⟨i, j, rfl, hj, h1.ok sr1 itr_rng⟩
    · exact h1.elim
  · exact h1.elim
end
/-! ### the plainest reading -/
def cE {α β : Type} (N : Nms) (K : PySem.W.Frag) (R : List Addr → Hp → α → β → Prop) (W : L2.St → XK) (f : En → Sto → Out α) : L2.St → Hp → (β → Hp → Prop) → Prop := fun σ H Q => ∃ m S env, SR N K m S H ∧ EnR N K m H env σ ∧ Post N K R m H Q (W σ) (f env S)
theorem cE_sim {α β : Type} {N : Nms} {K : PySem.W.Frag} {R : List Addr → Hp → α → β → Prop} {W : L2.St → XK} {f : En → Sto → Out α} : Sim N K R W (cE N K R W f) f := fun m S H env σ Q s er h => ⟨m, S, env, s, er, h⟩
section
variable {N : Nms} {X : Cx} {W : L2.St → XK} {e a b c tg : Expr} {fa fb : XE'} {ft : XT} {f : XA} {pos p : Pos} {fi : En → Sto → Out Itm}
theorem SE.pe (h : SE N X W e fa) : PE X e (cE N X.K (Vr N X.K) W fa) := by
  obtain ⟨t, p, s⟩ := h.ex
  exact ⟨fun pins sh σ H Q I ⟨m, S, env, s1, er, hp⟩ => p.run pins sh σ H Q I (s m S H env σ Q s1 er hp)⟩
theorem ST.pt (h : ST N X W e ft) : PT X e (cE N X.K RvB W ft) := by
  obtain ⟨t, p, s⟩ := h.ex
  exact ⟨fun pins sh σ H Q I ⟨m, S, env, s1, er, hp⟩ => p.run pins sh σ H Q I (s m S H env σ Q s1 er hp)⟩
theorem SI.pi (h : SI N X W tg e fi) : PI X tg e (cE N X.K (ItR N X.K) W fi) := by
  obtain ⟨t, p, s⟩ := h.ex
  exact ⟨fun pins sh σ H Q I ⟨m, S, env, s1, er, hp⟩ => p.run pins sh σ H Q I (s m S H env σ Q s1 er hp)⟩
end
/-! ### comprehensions -/
def wipeE (env : En) : List Nat → En
  | [] => env
  | v :: vs => (wipeE env vs).set v none
theorem EnR.none {N : Nms} {K : PySem.W.Frag} {m : List Addr} {H : Hp} {env : En} {σ : L2.St} (h0 : N.xh = none) (h : EnR N K m H env σ) (i : Nat) : EnR N K m H (env.set i none) (σ.set i none) := by
  refine ⟨by rw [List.length_set, List.length_set]; exact h.len, fun j w q => ?_, fun i a e => (by rw [h0] at e; cases e), h.hj⟩
  rw [List.getElem?_set] at q
  rw [List.getElem?_set]
  split at q
  · split at q <;> cases q
  · rename_i z
    rw [if_neg z]
    exact h.at_ j w q
theorem EnR.wipe {N : Nms} {K : PySem.W.Frag} {m : List Addr} {H : Hp} {env : En} {σ : L2.St} (h0 : N.xh = Option.none) (h : EnR N K m H env σ) : ∀ vs : List Nat, EnR N K m H (wipeE env vs) (L2.wipe σ vs)
  | [] => h
  | v :: vs => EnR.none h0 (EnR.wipe h0 h vs) v
theorem wipe_set {σ : L2.St} {i : Nat} {x : Option V} : ∀ {vs : List Nat}, i ∈ vs → L2.wipe (σ.set i x) vs = L2.wipe σ vs
  | v :: vs, h => by
    unfold L2.wipe
    by_cases q : i ∈ vs
    · rw [wipe_set q]
    · rcases List.mem_cons.mp h with rfl | h
      · have key : ∀ (us : List Nat), i ∉ us → L2.wipe (σ.set i x) us = (L2.wipe σ us).set i x := by
          intro us
          induction us with
          | nil => intro _; rfl
          | cons u us ih =>
            intro hu
            unfold L2.wipe
            rw [ih (fun z => hu (List.mem_cons_of_mem _ z)), List.set_comm]
            exact fun z => hu (z ▸ List.mem_cons_self)
        rw [key vs q, List.set_set]
      · exact absurd h q
theorem wipe_wipe (σ : L2.St) (vs : List Nat) : L2.wipe (L2.wipe σ vs) vs = L2.wipe σ vs := by
  have wz : ∀ us : List Nat, (∀ z ∈ us, z ∈ vs) → L2.wipe (L2.wipe σ vs) us = L2.wipe σ vs := by
    intro us
    induction us with
    | nil => intro _; rfl
    | cons z us ih =>
      intro hz
      show (L2.wipe (L2.wipe σ vs) us).set z none = L2.wipe σ vs
      rw [ih fun y hy => hz y (List.mem_cons_of_mem _ hy)]
      have zin := hz z List.mem_cons_self
      apply List.ext_getElem?
      intro j
      rw [List.getElem?_set]
      split
      · rename_i hj
        subst hj
        split
        · cases qz : (L2.wipe σ vs)[z]? with
          | none => rw [List.getElem?_eq_none_iff] at qz; omega
          | some o =>
            cases o with
            | none => rfl
            | some y => exact absurd zin (wipe_some qz).2
        · rename_i hl
          rw [List.getElem?_eq_none (by omega)]
      · rfl
  exact wz vs fun _ z => z
/-- a target that stores to slots of vs alone -/
def SimGV (N : Nms) (K : PySem.W.Frag) (vs : List Nat) (t : TG) (g : GM) : Prop := ∀ m S H env σ v u (Q : L2.St → Hp → Prop) env' S', SR N K m S H → EnR N K m H env σ → Vr N K m H v u → g v env S = .ok env' S' →
  (∀ m' H' σ', Ext K m H m' H' → SR N K m' S' H' → EnR N K m' H' env' σ' → L2.wipe σ' vs = L2.wipe σ vs → Q σ' H') → t u σ H Q
theorem sgv_name {N : Nms} {K : PySem.W.Frag} {vs : List Nat} {i : Nat} (hi : i ∈ vs) (h0 : N.xh = none := by rfl) : SimGV N K vs (gName i) (gmName i) := fun m S H env σ v u Q env' S' s er r e h => by
  cases e
  exact h m H _ Ext.refl s (er.set (Nms.fr0 h0) r) (wipe_set hi)
def SimGVs (N : Nms) (K : PySem.W.Frag) (vs : List Nat) (t : TGs) (g : GMs) : Prop := ∀ m S H env σ xs us (Q : L2.St → Hp → Prop) env' S', SR N K m S H → EnR N K m H env σ → Vrs N K m H xs us → g xs env S = .ok env' S' →
  (∀ m' H' σ', Ext K m H m' H' → SR N K m' S' H' → EnR N K m' H' env' σ' → L2.wipe σ' vs = L2.wipe σ vs → Q σ' H') → t us σ H Q
theorem sgvs_nil {N : Nms} {K : PySem.W.Frag} {vs : List Nat} : SimGVs N K vs gNil gmsNil := fun m S H env σ xs us Q env' S' s er r e h => by
  cases r with
  | nil => cases e; exact ⟨rfl, h m H _ Ext.refl s er rfl⟩
  | cons _ _ => cases e
theorem sgvs_cons {N : Nms} {K : PySem.W.Frag} {vs : List Nat} {i : Nat} {t : TGs} {g : GMs} (hi : i ∈ vs) (hr : SimGVs N K vs t g) (h0 : N.xh = none := by rfl) : SimGVs N K vs (gCons (gName i) t) (gmsCons (gmName i) g) := fun m S H env σ xs us Q env' S' s er r e h => by
  cases r with
  | nil => cases e
  | cons r0 rr =>
    rename_i x u xs us
    exact ⟨u, us, rfl, hr m S H (env.set i (some x)) _ xs us Q env' S' s (er.set (Nms.fr0 h0) r0) rr e fun m' H' σ' ex sr er' hw => h m' H' σ' ex sr er' (hw.trans (wipe_set hi))⟩
theorem sgv_tup {N : Nms} {K : PySem.W.Frag} {vs : List Nat} {n : Nat} {t : TGs} {g : GMs} (hr : SimGVs N K vs t g) : SimGV N K vs (fun v σ H Q => gTup K n t v σ H Q ∨ gUnl K n t v σ H Q) (gmTup n g) := fun m S H env σ v u Q env' S' s er r e h => by
  unfold gmTup at e
  split at e
  · obtain ⟨a, ys, rfl, h1, h2⟩ := r.asT rfl
    split at e
    · rename_i hl
      exact .inl ⟨a, ys, rfl, h1, by rw [← h2.len]; exact hl, hr m S H env σ _ ys Q env' S' s er h2 e h⟩
    · cases e
  · obtain ⟨a, ys, rfl, h1, h2⟩ := r.asT rfl
    split at e
    · rename_i hl
      exact .inl ⟨a, ys, rfl, h1, by rw [← h2.len]; exact hl, hr m S H env σ _ ys Q env' S' s er h2 e h⟩
    · cases e
  · split at e
    · rename_i hS
      split at e
      · rename_i hl
        obtain ⟨a, rfl, hm⟩ := r.ref'
        obtain ⟨ys, h1, h2⟩ := s.lst hm hS
        exact .inr ⟨a, ys, rfl, sq_of h1, by rw [← h2.len]; exact hl, hr m S H env σ _ ys Q env' S' s er h2 e h⟩
      · cases e
    · cases e
  · cases e
/-- the turns of a comprehension that lays its list at D -/
def compZ (I : Itm) (g : GM) (t : XT) (e : XE') (env : En) (D : Nat) : Nat → Nat → Sto → Out Unit
  | n, i, S => match I.nxt i S with
    | .stop => .ok () S
    | .bad => .bad
    | .yld x S1 => match n with
      | 0 => .bad
      | n + 1 => match g x env S1 with
        | .ok e1 S2 => match t e1 S2 with
          | .ok b S3 => if b = true then match e e1 S3 with
              | .ok y S4 => match S4[D]? with
                | some (.lst acc) => if acc.length < 100000 then compZ I g t e env D n (i + 1) (S4.set D (.lst (acc ++ [y]))) else .bad
                | _ => .bad
              | _ => .bad
            else compZ I g t e env D n (i + 1) S3
          | _ => .bad
        | _ => .bad
theorem compZ_eq {I : Itm} {g : GM} {t : XT} {e : XE'} {env : En} {D n i : Nat} {S : Sto} : compZ I g t e env D n i S = match I.nxt i S with
    | .stop => .ok () S
    | .bad => .bad
    | .yld x S1 => match n with
      | 0 => .bad
      | n + 1 => match g x env S1 with
        | .ok e1 S2 => match t e1 S2 with
          | .ok b S3 => if b = true then match e e1 S3 with
              | .ok y S4 => match S4[D]? with
                | some (.lst acc) => if acc.length < 100000 then compZ I g t e env D n (i + 1) (S4.set D (.lst (acc ++ [y]))) else .bad
                | _ => .bad
              | _ => .bad
            else compZ I g t e env D n (i + 1) S3
          | _ => .bad
        | _ => .bad := by
  cases n <;> rw [compZ]
def xLc (it : En → Sto → Out Itm) (g : GM) (t : XT) (e : XE') (vs : List Nat) : XE' := fun env S => (it env S).bind fun I S1 => (compZ I g t e (wipeE env vs) S1.length I.fuel 0 (S1 ++ [.lst []])).bind fun _ S2 => .ok (.ref S1.length) S2
def yYes : XT := fun _ S => .ok true S
/-- what a comprehension's block has -/
abbrev Cx.bk (X : Cx) (s : Shared) (H : Hp) (scope : Scope) (C : Addr) (cl : List (Str × Addr)) (fp : List Addr) : Cx := X.blk s H scope (compEnvC scope cl C X.env) fp
theorem sim_yes {N : Nms} {K : PySem.W.Frag} {W : L2.St → XK} : Sim N K RvB W tYes yYes := fun m S H env σ Q s er h => h.ok s rfl
section
variable {N : Nms} {X : Cx} {W : L2.St → XK} {elt tg iter : Expr} {ifs : List Expr} {scope : Scope} {own : List (Str × Nat)} {pos : Pos} {fi : En → Sto → Out Itm} {gm : GM} {ft : XT} {fe : XE'} {g : TG}
theorem sim_lc {K : PySem.W.Frag} {wi : TI} {tt : TT} {te : TE} {vs : List Nat} (s0 : Sim N K (ItR N K) W wi fi) (s1 : SimGV N K vs g gm) (s2 : Sim N K RvB (fun _ => E0) tt ft) (s3 : Sim N K (Vr N K) (fun _ => E0) te fe) (h0 : N.xh = none) : Sim N K (Vr N K) W (tLc wi g tt te vs) (xLc fi gm ft fe vs) := fun m S H env σ Q s er h =>
  s0.step s er h fun I S1 m1 H1 J e1 sr1 r1 er1 h1 => fun D hD => by
    have sD := sr1.new (o := .lst []) (Same.new hD) hD upd_same (.lst .nil)
    have eD : Ext K m1 H1 (m1 ++ [D]) (upd H1 D (.lst [])) := Ext.app (Same.new hD)
    have mD : (m1 ++ [D])[S1.length]? = some D := by
      have := sr1.ref_new (p := D) (H' := H1)
      cases this with | ref z => exact z
    refine ⟨fun i n H' => ∃ m' S', Ext K (m1 ++ [D]) (upd H1 D (.lst [])) m' H' ∧ SR N K m' S' H' ∧ Post N K (Vr N K) m' H' Q (W σ) ((compZ I gm ft fe (wipeE env vs) S1.length n i S').bind fun _ S2 => .ok (.ref S1.length) S2), ⟨I.fuel, m1 ++ [D], S1 ++ [.lst []], Ext.refl, sD, Post.mono eD h1⟩, ?_⟩
    rintro i n H' ⟨m', S', e', s', h'⟩
    rw [compZ_eq] at h'
    have hJ := r1 m' S' H' i (eD.trans e') s'
    cases q : I.nxt i S' with
    | stop =>
      rw [q] at h' hJ
      exact .inl ⟨hJ, h'.ok s' (.ref (e'.pre _ _ mD))⟩
    | bad => rw [q] at h'; exact h'.elim
    | yld x S2 =>
      rw [q] at h' hJ
      cases n with
      | zero => exact h'.elim
      | succ n =>
        refine .inr ⟨hJ.1, fun H'' => ∃ m' S', Ext K (m1 ++ [D]) (upd H1 D (.lst [])) m' H'' ∧ SR N K m' S' H'' ∧ Post N K (Vr N K) m' H'' Q (W σ) ((compZ I gm ft fe (wipeE env vs) S1.length n (i + 1) S').bind fun _ S2 => .ok (.ref S1.length) S2), fun H'' z => ⟨n, Nat.lt_succ_self n, z⟩, fun u H2 hy => ?_⟩
        obtain ⟨m2, e2, s2', r2⟩ := hJ.2 u H2 hy
        have h2 := Post.mono e2 h'
        have er2 : EnR N K m2 H2 (wipeE env vs) (L2.wipe σ vs) := EnR.wipe h0 ((er1.mono (eD.trans e')).mono e2) vs
        dsimp only at h2
        cases q3 : gm x (wipeE env vs) S2 with
        | err c' x' S3 => rw [q3] at h2; exact h2.elim
        | bad => rw [q3] at h2; exact h2.elim
        | ok env3 S3 =>
          rw [q3] at h2
          dsimp only at h2
          refine s1 m2 S2 H2 (wipeE env vs) (L2.wipe σ vs) x u _ env3 S3 s2' er2 r2 q3 fun m3 H3 σ3 e3 s3' er3 hw => ⟨hw.trans (wipe_wipe σ vs), ?_⟩
          have h3 := Post.mono e3 h2
          refine s2 m3 S3 H3 env3 σ3 _ s3' er3 ?_
          cases q4 : ft env3 S3 with
          | ok b S4 =>
            rw [q4] at h3
            intro m4 H4 b' e4 s4 rb
            cases rb
            have h4 := Post.mono e4 h3
            dsimp only at h4
            cases b with
            | true =>
              rw [if_pos rfl] at h4 ⊢
              refine s3 m4 S4 H4 env3 σ3 _ s4 (er3.mono e4) ?_
              cases q5 : fe env3 S4 with
              | ok y S5 =>
                rw [q5] at h4
                intro m5 H5 uy e5 s5 ry
                have h5 := Post.mono e5 h4
                dsimp only at h5
                cases q6 : S5[S1.length]? with
                | none => rw [q6] at h5; exact h5.elim
                | some o =>
                  cases o with
                  | lst acc =>
                    rw [q6] at h5
                    dsimp only at h5
                    have mD5 := (((((e'.trans e2).trans e3).trans e4).trans e5).pre _ _ mD)
                    obtain ⟨ys, k1, k2⟩ := s5.lst mD5 q6
                    split at h5
                    · rename_i hl
                      have ex : Ext K m5 H5 m5 (upd H5 D (.lst (ys ++ [uy]))) := Ext.upd k1 trivial
                      exact ⟨ys, k1, sz_lt (by rw [← k2.len]; exact hl), m5, _, ((((e'.trans e2).trans e3).trans e4).trans e5).trans ex, s5.set mD5 k1 trivial (.lst (k2.append (.cons ry .nil))), Post.mono ex h5⟩
                    · exact h5.elim
                  | _ => rw [q6] at h5; exact h5.elim
              | err c' x' S5 => rw [q5] at h4; exact h4.elim
              | bad => rw [q5] at h4; exact h4.elim
            | false =>
              rw [if_neg Bool.false_ne_true] at h4 ⊢
              exact ⟨m4, S4, ((e'.trans e2).trans e3).trans e4, s4, h4⟩
          | err c' x' S4 => rw [q4] at h3; exact h3.elim
          | bad => rw [q4] at h3; exact h3.elim
theorem se_lc (hc : X.calm = true) (hN : X.N.Nodup) (hi : SI N X W tg iter fi) (ok : BlkOk X.N X.env.scope scope own) (hgv : SimGV N X.K (own.map (·.2)) g gm)
    (hg : ∀ (s : Shared) (H : Hp) (C : Addr) (cl : List (Str × Addr)) (fp : List Addr), PG (X.blk s H scope (compEnvC scope cl C X.env) fp) tg g) (he : ∀ (s : Shared) (H : Hp) (C : Addr) (cl : List (Str × Addr)) (fp : List Addr), SE N (X.blk s H scope (compEnvC scope cl C X.env) fp) (fun _ => E0) elt fe)
    (hs : ∀ x, foldedSetIterable iter X.env x = pure x := by intro _; rfl) (h0 : N.xh = none := by rfl) : SE N X W (.ListComp elt [⟨tg, iter, [], 0⟩] scope pos) (xLc fi gm yYes fe (own.map (·.2))) := by
  obtain ⟨wi, p0, s0⟩ := hi.ex
  exact ⟨_, pe_lc hc hN p0 ok hg (fun _ _ _ _ _ => pts_nil) (fun s H C cl fp => (he s H C cl fp).pe) hs, sim_lc s0 hgv sim_yes cE_sim h0⟩
theorem se_lcIf {cond : Expr} (hc : X.calm = true) (hN : X.N.Nodup) (hi : SI N X W tg iter fi) (ok : BlkOk X.N X.env.scope scope own) (hgv : SimGV N X.K (own.map (·.2)) g gm)
    (hg : ∀ (s : Shared) (H : Hp) (C : Addr) (cl : List (Str × Addr)) (fp : List Addr), PG (X.blk s H scope (compEnvC scope cl C X.env) fp) tg g) (ht : ∀ (s : Shared) (H : Hp) (C : Addr) (cl : List (Str × Addr)) (fp : List Addr), ST N (X.blk s H scope (compEnvC scope cl C X.env) fp) (fun _ => E0) cond ft)
    (he : ∀ (s : Shared) (H : Hp) (C : Addr) (cl : List (Str × Addr)) (fp : List Addr), SE N (X.blk s H scope (compEnvC scope cl C X.env) fp) (fun _ => E0) elt fe)
    (hs : ∀ x, foldedSetIterable iter X.env x = pure x := by intro _; rfl) (h0 : N.xh = none := by rfl) : SE N X W (.ListComp elt [⟨tg, iter, [cond], 0⟩] scope pos) (xLc fi gm ft fe (own.map (·.2))) := by
  obtain ⟨wi, p0, s0⟩ := hi.ex
  exact ⟨_, pe_lc hc hN p0 ok hg (fun s H C cl fp => pts_one (ht s H C cl fp).pt) (fun s H C cl fp => (he s H C cl fp).pe) hs, sim_lc s0 hgv cE_sim cE_sim h0⟩
/-- name = [..] on one line, the name a local -/
theorem ss_setLc {i : Nat} {y : Str} {py spos : Pos} (hc : X.calm = true) (hN : X.N.Nodup) (hi : SI N X W tg iter fi) (ok : BlkOk X.N X.env.scope scope own) (hgv : SimGV N X.K (own.map (·.2)) g gm)
    (hg : ∀ (s : Shared) (H : Hp) (C : Addr) (cl : List (Str × Addr)) (fp : List Addr), PG (X.blk s H scope (compEnvC scope cl C X.env) fp) tg g) (he : ∀ (s : Shared) (H : Hp) (C : Addr) (cl : List (Str × Addr)) (fp : List Addr), SE N (X.blk s H scope (compEnvC scope cl C X.env) fp) (fun _ => E0) elt fe)
    (hy : X.N[i]? = some y) (hyl : X.env.scope.names.lookup y = some .local) (hsw : swapsWith (.ListComp elt [⟨tg, iter, [], 0⟩] scope pos) (some (.Name y py)) spos.line X.env = pure true)
    (hs : ∀ x, foldedSetIterable iter X.env x = pure x := by intro _; rfl) (h0 : N.xh = none := by rfl) : SS N X W (.Assign [.Name y py] (.ListComp elt [⟨tg, iter, [], 0⟩] scope pos) spos) (zAsg (xLc fi gm yYes fe (own.map (·.2))) (gmName i)) := by
  obtain ⟨wi, p0, s0⟩ := hi.ex
  exact ⟨_, ps_setLc hc hN hy hyl hsw p0 ok hg (fun _ _ _ _ _ => pts_nil) (fun s H C cl fp => (he s H C cl fp).pe) hs, fun m S H env σ D s er h => (sim_lc s0 hgv sim_yes cE_sim h0).stepS s er h fun v S1 m1 H1 u e1 sr1 r1 er1 h1 => h1 m1 H1 _ Ext.refl sr1 (er1.set (Nms.fr0 h0) r1)⟩
theorem ss_setLcIf {i : Nat} {y : Str} {py spos : Pos} {cond : Expr} (hc : X.calm = true) (hN : X.N.Nodup) (hi : SI N X W tg iter fi) (ok : BlkOk X.N X.env.scope scope own) (hgv : SimGV N X.K (own.map (·.2)) g gm)
    (hg : ∀ (s : Shared) (H : Hp) (C : Addr) (cl : List (Str × Addr)) (fp : List Addr), PG (X.blk s H scope (compEnvC scope cl C X.env) fp) tg g) (ht : ∀ (s : Shared) (H : Hp) (C : Addr) (cl : List (Str × Addr)) (fp : List Addr), ST N (X.blk s H scope (compEnvC scope cl C X.env) fp) (fun _ => E0) cond ft)
    (he : ∀ (s : Shared) (H : Hp) (C : Addr) (cl : List (Str × Addr)) (fp : List Addr), SE N (X.blk s H scope (compEnvC scope cl C X.env) fp) (fun _ => E0) elt fe)
    (hy : X.N[i]? = some y) (hyl : X.env.scope.names.lookup y = some .local) (hsw : swapsWith (.ListComp elt [⟨tg, iter, [cond], 0⟩] scope pos) (some (.Name y py)) spos.line X.env = pure true)
    (hs : ∀ x, foldedSetIterable iter X.env x = pure x := by intro _; rfl) (h0 : N.xh = none := by rfl) : SS N X W (.Assign [.Name y py] (.ListComp elt [⟨tg, iter, [cond], 0⟩] scope pos) spos) (zAsg (xLc fi gm ft fe (own.map (·.2))) (gmName i)) := by
  obtain ⟨wi, p0, s0⟩ := hi.ex
  exact ⟨_, ps_setLc hc hN hy hyl hsw p0 ok hg (fun s H C cl fp => pts_one (ht s H C cl fp).pt) (fun s H C cl fp => (he s H C cl fp).pe) hs, fun m S H env σ D s er h => (sim_lc s0 hgv cE_sim cE_sim h0).stepS s er h fun v S1 m1 H1 u e1 sr1 r1 er1 h1 => h1 m1 H1 _ Ext.refl sr1 (er1.set (Nms.fr0 h0) r1)⟩
end
end Nt

namespace Nt
open PySem PySem.Spec PyProof.Rows L2 Evl
/-! ### built-ins -/
def vLen (vs : List Vl) (S : Sto) : Out Vl := match vs with
  | [.tup xs] => .ok (.int xs.length) S
  | [.ktp xs] => .ok (.int xs.length) S
  | [.scr ns] => .ok (.int ns.length) S
  | [.str z] => if z.length ≤ 100000 then .ok (.int z.length) S else .bad
  | [.ref i] => match S[i]? with
    | some (.lst xs) => .ok (.int xs.length) S
    | some (.dk kvs) => .ok (.int kvs.length) S
    | _ => .bad
  | _ => .bad
def vAbs (vs : List Vl) (S : Sto) : Out Vl := match vs with
  | [.int i] => .ok (.int (if i < 0 then -i else i)) S
  | _ => .bad
/-- a list of numbers -/
def toInts : List Vl → Option (List Int)
  | [] => some []
  | .int i :: r => (toInts r).map (i :: ·)
  | _ => none
def toBools : List Vl → Option (List Bool)
  | [] => some []
  | .bl i :: r => (toBools r).map (i :: ·)
  | _ => none
def vMax (vs : List Vl) (S : Sto) : Out Vl := match vs with
  | [.int i, .int j] => .ok (.int (if j > i then j else i)) S
  | _ => .bad
def vMin (vs : List Vl) (S : Sto) : Out Vl := match vs with
  | [.int i, .int j] => .ok (.int (if j < i then j else i)) S
  | _ => .bad
def vInt (vs : List Vl) (S : Sto) : Out Vl := match vs with
  | [.int i] => .ok (.int i) S
  | [.bl b] => .ok (.int (if b then 1 else 0)) S
  | [.str z] => if z.length ≤ 640 then match PySem.intText? z with
    | some n => .ok (.int n) S
    | none => .bad
    else .bad
  | _ => .bad
def vStr (vs : List Vl) (S : Sto) : Out Vl := match vs with
  | [.int i] => if i.natAbs.log2 < 1920 then .ok (.str (toString i)) S else .bad
  | [.str z] => .ok (.str z) S
  | _ => .bad
def kVl : Key → Vl
  | .inl i => .int i
  | .inr z => .str z
def vList (vs : List Vl) (S : Sto) : Out Vl := match vs with
  | [.tup xs] => .ok (.ref S.length) (S ++ [.lst xs])
  | [.ktp xs] => .ok (.ref S.length) (S ++ [.lst xs])
  | [.scr ns] => .ok (.ref S.length) (S ++ [.lst (ns.map .int)])
  | [.ref i] => match S[i]? with
    | some (.lst xs) => .ok (.ref S.length) (S ++ [.lst xs])
    | some (.dk kvs) => .ok (.ref S.length) (S ++ [.lst (kvs.map fun kv => kVl kv.1)])
    | _ => .bad
  | _ => .bad
def vTuple (vs : List Vl) (S : Sto) : Out Vl := match vs with
  | [.tup xs] => .ok (.tup xs) S
  | [.ref i] => match S[i]? with
    | some (.lst xs) => .ok (.tup xs) S
    | _ => .bad
  | _ => .bad
def vSum (vs : List Vl) (S : Sto) : Out Vl := match vs with
  | [.ref i] => match S[i]? with
    | some (.lst xs) => match toInts xs with
      | some ns => .ok (.int ns.sum) S
      | none => .bad
    | _ => .bad
  | _ => .bad
def vAll (vs : List Vl) (S : Sto) : Out Vl := match vs with
  | [.ref i] => match S[i]? with
    | some (.lst xs) => match toBools xs with
      | some bs => .ok (.bl (bs.all id)) S
      | none => .bad
    | _ => .bad
  | _ => .bad
def vAny (vs : List Vl) (S : Sto) : Out Vl := match vs with
  | [.ref i] => match S[i]? with
    | some (.lst xs) => match toBools xs with
      | some bs => .ok (.bl (bs.any id)) S
      | none => .bad
    | _ => .bad
  | _ => .bad
def insI (x : Int) : List Int → List Int
  | [] => [x]
  | y :: ys => if x ≤ y then x :: y :: ys else y :: insI x ys
def isort : List Int → List Int
  | [] => []
  | x :: xs => insI x (isort xs)
theorem insI_perm (x : Int) : ∀ l : List Int, (insI x l).Perm (x :: l)
  | [] => List.Perm.refl _
  | y :: ys => by
    unfold insI
    split
    · exact List.Perm.refl _
    · exact ((insI_perm x ys).cons y).trans (List.Perm.swap x y ys)
theorem isort_perm : ∀ l : List Int, (isort l).Perm l
  | [] => List.Perm.refl _
  | x :: xs => (insI_perm x (isort xs)).trans ((isort_perm xs).cons x)
theorem insI_mem {x z : Int} {l : List Int} (h : z ∈ insI x l) : z = x ∨ z ∈ l := by
  have := (insI_perm x l).mem_iff.mp h
  exact List.mem_cons.mp this
theorem insI_sorted (x : Int) : ∀ {l : List Int}, l.Pairwise (· ≤ ·) → (insI x l).Pairwise (· ≤ ·)
  | [], _ => List.pairwise_singleton _ _
  | y :: ys, h => by
    unfold insI
    obtain ⟨h1, h2⟩ := List.pairwise_cons.mp h
    split
    · rename_i q
      refine List.pairwise_cons.mpr ⟨fun z hz => ?_, h⟩
      rcases List.mem_cons.mp hz with rfl | hz
      · exact q
      · exact Int.le_trans q (h1 z hz)
    · rename_i q
      refine List.pairwise_cons.mpr ⟨fun z hz => ?_, insI_sorted x h2⟩
      rcases insI_mem hz with rfl | hz
      · omega
      · exact h1 z hz
theorem isort_sorted : ∀ l : List Int, (isort l).Pairwise (· ≤ ·)
  | [] => List.Pairwise.nil
  | x :: xs => insI_sorted x (isort_sorted xs)
theorem isort_one {a l : List Int} (hp : a.Perm l) (ha : a.Pairwise (· ≤ ·)) : a = isort l := PySem.W.ksm_same (hp.trans (isort_perm l).symm) ha (isort_sorted l)
def intKeys : List (Key × Vl) → Option (List Int)
  | [] => some []
  | (.inl i, _) :: r => (intKeys r).map (i :: ·)
  | _ => none
def vSorted (vs : List Vl) (S : Sto) : Out Vl := match vs with
  | [.ref i] => match S[i]? with
    | some (.lst xs) => match toInts xs with
      | some ns => .ok (.ref S.length) (S ++ [.lst ((isort ns).map .int)])
      | none => .bad
    | some (.dk kvs) => match intKeys kvs with
      | some ns => if ns.length < 64 then .ok (.ref S.length) (S ++ [.lst ((isort ns).map .int)]) else .bad
      | none => .bad
    | _ => .bad
  | _ => .bad
section
variable {N : Nms} {K : PySem.W.Frag} {m : List Addr} {H : Hp}
theorem toInts_eq : ∀ {xs : List Vl} {ns : List Int}, toInts xs = some ns → xs = ns.map .int
  | [], _, e => by cases e; rfl
  | x :: xs, ns, e => by
    cases x with
    | int i =>
      cases q : toInts xs with
      | none => simp only [toInts, q] at e; cases e
      | some l =>
        simp only [toInts, q] at e
        cases e
        rw [toInts_eq q]
        rfl
    | _ => cases e
theorem toBools_ok : ∀ {xs : List Vl} {us : List V} {ns : List Bool}, toBools xs = some ns → Vrs N K m H xs us → us = ns.map .bl
  | [], _, _, e, .nil => by cases e; rfl
  | x :: xs, _, ns, e, .cons h r => by
    cases x with
    | bl i =>
      cases q : toBools xs with
      | none => simp only [toBools, q] at e; cases e
      | some l =>
        simp only [toBools, q] at e
        cases e
        cases h
        rw [toBools_ok q r]
        rfl
    | _ => cases e
theorem intKeys_ok : ∀ {xs : List (Key × Vl)} {us : List (Key × V)} {ns : List Int}, intKeys xs = some ns → KR N K m H xs us → us.map (·.1) = ns.map Sum.inl
  | [], _, _, e, .nil => by cases e; rfl
  | (k, x) :: xs, _, ns, e, .cons h r => by
    cases k with
    | inl i =>
      cases q : intKeys xs with
      | none => simp only [intKeys, q] at e; cases e
      | some l =>
        simp only [intKeys, q] at e
        cases e
        rw [List.map_cons, intKeys_ok q r]
        rfl
    | inr _ => cases e
theorem keys_ok : ∀ {xs : List (Key × Vl)} {us : List (Key × V)}, KR N K m H xs us → Vrs N K m H (xs.map fun kv => kVl kv.1) (us.map fun kv => kV kv.1)
  | _, _, .nil => .nil
  | (k, _) :: _, _, .cons h r => .cons (by cases k; exact .int _; exact .str _) (keys_ok r)
theorem Vrs.one {x : Vl} {us : List V} (r : Vrs N K m H [x] us) : ∃ u, us = [u] ∧ Vr N K m H x u := by
  obtain ⟨u, ws, rfl, h1, h2⟩ := r.cons'
  cases h2.nil'
  exact ⟨u, rfl, h1⟩
theorem Vrs.two {x y : Vl} {us : List V} (r : Vrs N K m H [x, y] us) : ∃ u w, us = [u, w] ∧ Vr N K m H x u ∧ Vr N K m H y w := by
  obtain ⟨u, ws, rfl, h1, h2⟩ := r.cons'
  obtain ⟨w, rfl, h3⟩ := h2.one
  exact ⟨u, w, rfl, h1, h3⟩
end
section
variable {N : Nms} {X : Cx}
theorem cm_len : CallM N X (.builtin "len") vLen := by
  refine ⟨_, call_len.or call_lenD, fun m S H xs us Q E s r h => ?_⟩
  unfold vLen at h
  split at h
  · obtain ⟨u, rfl, ru⟩ := r.one
    obtain ⟨a, ys, rfl, h1, h2⟩ := ru.asT rfl
    rw [h2.len] at h
    exact .inl ⟨_, _, rfl, .inr ⟨ys, h1, rfl⟩, h.ok s (.int _)⟩
  · obtain ⟨u, rfl, ru⟩ := r.one
    obtain ⟨a, ys, rfl, h1, h2⟩ := ru.asT rfl
    rw [h2.len] at h
    exact .inl ⟨_, _, rfl, .inr ⟨ys, h1, rfl⟩, h.ok s (.int _)⟩
  · obtain ⟨u, rfl, ru⟩ := r.one
    obtain ⟨a, rfl, h1⟩ := ru.scr'
    exact .inl ⟨_, _, rfl, .inl ⟨_, h1.l, rfl⟩, by rw [List.length_map]; exact h.ok s (.int _)⟩
  · split at h
    · rename_i hl
      obtain ⟨u, rfl, ru⟩ := r.one
      cases ru
      exact .inl ⟨_, _, rfl, ⟨sz_of hl, rfl⟩, h.ok s (.int _)⟩
    · exact h.elim
  · obtain ⟨u, rfl, ru⟩ := r.one
    obtain ⟨a, rfl, h1⟩ := ru.ref'
    split at h
    · rename_i hS
      obtain ⟨ys, h2, h3⟩ := s.lst h1 hS
      rw [h3.len] at h
      exact .inl ⟨_, _, rfl, .inl ⟨ys, sq_of h2, rfl⟩, h.ok s (.int _)⟩
    · rename_i hS
      obtain ⟨ys, h2, h3⟩ := s.dk h1 hS
      rw [h3.len] at h
      exact .inr ⟨a, ys, rfl, h2, h.ok s (.int _)⟩
    · exact h.elim
  · exact h.elim
theorem cm_abs : CallM N X (.builtin "abs") vAbs := by
  refine ⟨_, call_abs, fun m S H xs us Q E s r h => ?_⟩
  unfold vAbs at h
  split at h
  · obtain ⟨u, rfl, ru⟩ := r.one
    cases ru
    exact ⟨_, rfl, h.ok s (.int _)⟩
  · exact h.elim
theorem cm_max (hc : X.calm = true) : CallM N X (.builtin "max") vMax := by
  refine ⟨_, call_max2 hc, fun m S H xs us Q E s r h => ?_⟩
  unfold vMax at h
  split at h
  · obtain ⟨u, w, rfl, ru, rw'⟩ := r.two
    cases ru; cases rw'
    exact ⟨_, _, rfl, h.ok s (.int _)⟩
  · exact h.elim
theorem cm_min (hc : X.calm = true) : CallM N X (.builtin "min") vMin := by
  refine ⟨_, call_min2 hc, fun m S H xs us Q E s r h => ?_⟩
  unfold vMin at h
  split at h
  · obtain ⟨u, w, rfl, ru, rw'⟩ := r.two
    cases ru; cases rw'
    exact ⟨_, _, rfl, h.ok s (.int _)⟩
  · exact h.elim
theorem cm_int : CallM N X (.type "int") vInt := by
  refine ⟨_, call_int1.or call_int_str, fun m S H xs us Q E s r h => ?_⟩
  unfold vInt at h
  split at h
  · obtain ⟨u, rfl, ru⟩ := r.one
    cases ru
    exact .inl (.inl ⟨_, rfl, h.ok s (.int _)⟩)
  · obtain ⟨u, rfl, ru⟩ := r.one
    cases ru
    exact .inl (.inr ⟨_, rfl, h.ok s (.int _)⟩)
  · obtain ⟨u, rfl, ru⟩ := r.one
    cases ru
    split at h
    · rename_i hl
      split at h
      · rename_i n hn
        exact .inr ⟨_, n, rfl, hn, hl, h.ok s (.int _)⟩
      · exact h.elim
    · exact h.elim
  · exact h.elim
theorem cm_str : CallM N X (.type "str") vStr := by
  refine ⟨_, call_strA, fun m S H xs us Q E s r h => ?_⟩
  unfold vStr at h
  split at h
  · split at h
    · rename_i hl
      obtain ⟨u, rfl, ru⟩ := r.one
      cases ru
      exact .inl ⟨_, rfl, hl, h.ok s (.str _)⟩
    · exact h.elim
  · obtain ⟨u, rfl, ru⟩ := r.one
    cases ru
    exact .inr ⟨_, rfl, h.ok s (.str _)⟩
  · exact h.elim
theorem cm_list (hc : X.calm = true) : CallM N X (.type "list") vList := by
  refine ⟨_, call_list_of.or (call_listD hc), fun m S H xs us Q E s r h => ?_⟩
  unfold vList at h
  split at h
  · obtain ⟨u, rfl, ru⟩ := r.one
    obtain ⟨a, ys, rfl, h1, h2⟩ := ru.asT rfl
    exact .inl ⟨a, ys, rfl, .inr h1, fun l hl => h.to (Ext.app (Same.new hl)) (s.new (Same.new hl) hl upd_same (.lst h2)) s.ref_new⟩
  · obtain ⟨u, rfl, ru⟩ := r.one
    obtain ⟨a, ys, rfl, h1, h2⟩ := ru.asT rfl
    exact .inl ⟨a, ys, rfl, .inr h1, fun l hl => h.to (Ext.app (Same.new hl)) (s.new (Same.new hl) hl upd_same (.lst h2)) s.ref_new⟩
  · obtain ⟨u, rfl, ru⟩ := r.one
    obtain ⟨a, rfl, h1⟩ := ru.scr'
    exact .inl ⟨a, _, rfl, .inl h1.l, fun l hl => h.to (Ext.app (Same.new hl)) (s.new (Same.new hl) hl upd_same (.lst (Vrs.ofInts _))) s.ref_new⟩
  · obtain ⟨u, rfl, ru⟩ := r.one
    obtain ⟨a, rfl, h1⟩ := ru.ref'
    split at h
    · rename_i hS
      obtain ⟨ys, h2, h3⟩ := s.lst h1 hS
      exact .inl ⟨a, ys, rfl, .inl (sq_of h2), fun l hl => h.to (Ext.app (Same.new hl)) (s.new (Same.new hl) hl upd_same (.lst h3)) s.ref_new⟩
    · rename_i hS
      obtain ⟨ys, h2, h3⟩ := s.dk h1 hS
      exact .inr ⟨a, ys, rfl, .inl h2, fun l hl => h.to (Ext.app (Same.new hl)) (s.new (Same.new hl) hl upd_same (.lst (keys_ok h3))) s.ref_new⟩
    · exact h.elim
  · exact h.elim
theorem cm_tuple : CallM N X (.type "tuple") vTuple := by
  refine ⟨_, call_tuple_of, fun m S H xs us Q E s r h => ?_⟩
  unfold vTuple at h
  split at h
  · obtain ⟨u, rfl, ru⟩ := r.one
    obtain ⟨a, ys, rfl, h1, h2⟩ := ru.tup'
    exact ⟨a, ys, rfl, .inr ⟨st_of h1, h.ok s (.tup h1 h2)⟩⟩
  · obtain ⟨u, rfl, ru⟩ := r.one
    obtain ⟨a, rfl, h1⟩ := ru.ref'
    split at h
    · rename_i hS
      obtain ⟨ys, h2, h3⟩ := s.lst h1 hS
      refine ⟨a, ys, rfl, .inl ⟨sq_of h2, fun l hl => ?_⟩⟩
      have ex : Ext X.K m H m (upd H l (.tup ys)) := Ext.same (Same.new hl)
      exact h.to ex (s.same (Same.new hl)) (.tup upd_same (h3.mono ex))
    · exact h.elim
  · exact h.elim
theorem cm_sum (hc : X.calm = true) : CallM N X (.builtin "sum") vSum := by
  refine ⟨_, cr_sum hc, fun m S H xs us Q E s r h => ?_⟩
  unfold vSum at h
  split at h
  · obtain ⟨u, rfl, ru⟩ := r.one
    obtain ⟨a, rfl, h1⟩ := ru.ref'
    split at h
    · rename_i hS
      split at h
      · rename_i ns hn
        obtain ⟨ys, h2, h3⟩ := s.lst h1 hS
        rw [toInts_eq hn] at h3
        rw [h3.ints] at h2
        exact ⟨a, ns, rfl, sq_of h2, h.ok s (.int _)⟩
      · exact h.elim
    · exact h.elim
  · exact h.elim
theorem cm_all (hc : X.calm = true) : CallM N X (.builtin "all") vAll := by
  refine ⟨_, cr_all hc, fun m S H xs us Q E s r h => ?_⟩
  unfold vAll at h
  split at h
  · obtain ⟨u, rfl, ru⟩ := r.one
    obtain ⟨a, rfl, h1⟩ := ru.ref'
    split at h
    · rename_i hS
      split at h
      · rename_i ns hn
        obtain ⟨ys, h2, h3⟩ := s.lst h1 hS
        rw [toBools_ok hn h3] at h2
        exact ⟨a, ns, rfl, sq_of h2, h.ok s (.bl _)⟩
      · exact h.elim
    · exact h.elim
  · exact h.elim
theorem cm_any (hc : X.calm = true) : CallM N X (.builtin "any") vAny := by
  refine ⟨_, cr_any hc, fun m S H xs us Q E s r h => ?_⟩
  unfold vAny at h
  split at h
  · obtain ⟨u, rfl, ru⟩ := r.one
    obtain ⟨a, rfl, h1⟩ := ru.ref'
    split at h
    · rename_i hS
      split at h
      · rename_i ns hn
        obtain ⟨ys, h2, h3⟩ := s.lst h1 hS
        rw [toBools_ok hn h3] at h2
        exact ⟨a, ns, rfl, sq_of h2, h.ok s (.bl _)⟩
      · exact h.elim
    · exact h.elim
  · exact h.elim
theorem cm_sorted (hc : X.calm = true) : CallM N X (.builtin "sorted") vSorted := by
  refine ⟨_, cr_sortedI.or (call_sortedDI hc), fun m S H xs us Q E s r h => ?_⟩
  unfold vSorted at h
  split at h
  · obtain ⟨u, rfl, ru⟩ := r.one
    obtain ⟨a, rfl, h1⟩ := ru.ref'
    split at h
    · rename_i hS
      split at h
      · rename_i ns hn
        obtain ⟨ys, h2, h3⟩ := s.lst h1 hS
        rw [toInts_eq hn] at h3
        rw [h3.ints] at h2
        refine .inl ⟨a, ns, rfl, sq_of h2, fun ns' l hp ho hl => ?_⟩
        rw [isort_one hp ho]
        exact h.to (Ext.app (Same.new hl)) (s.new (Same.new hl) hl upd_same (.lst (Vrs.ofInts _))) s.ref_new
      · exact h.elim
    · rename_i hS
      split at h
      · rename_i ns hn
        split at h
        · rename_i h64
          obtain ⟨ys, h2, h3⟩ := s.dk h1 hS
          refine .inr ⟨a, ys, ns, rfl, .inl h2, intKeys_ok hn h3, h64, fun ns' l hp ho hl => ?_⟩
          rw [isort_one hp ho]
          exact h.to (Ext.app (Same.new hl)) (s.new (Same.new hl) hl upd_same (.lst (Vrs.ofInts _))) s.ref_new
        · exact h.elim
      · exact h.elim
    · exact h.elim
  · exact h.elim
end
/-! ### isinstance by built-in types -/
def tyV' (S : Sto) : Vl → Option String
  | .non => some "NoneType"
  | .bl _ => some "bool"
  | .int _ => some "int"
  | .str _ => some "str"
  | .tup _ => some "tuple"
  | .ktp _ => some "tuple"
  | .ref i => match S[i]? with
    | some (.lst _) => some "list"
    | some (.dk _) => some "dict"
    | some (.dt _) => some "dict"
    | _ => none
  | _ => none
def isSub (t n : String) : Bool := t == n || (t == "bool" && n == "int")
def vIsi (vs : List Vl) (S : Sto) : Out Vl := match vs with
  | [x, .ty n] => match tyV' S x with
    | some t => if (["int", "bool", "str", "tuple", "list"] : List String).contains n then .ok (.bl (isSub t n)) S else .bad
    | none => .bad
  | _ => .bad
theorem kit_all : ∀ t ∈ (["NoneType", "bool", "int", "str", "tuple", "list", "dict"] : List String), ∀ n ∈ (["int", "bool", "str", "tuple", "list"] : List String), kitB t n = some (isSub t n) := by
  intro t ht n hn
  simp only [List.mem_cons, List.not_mem_nil, or_false] at ht hn
  rcases ht with rfl | rfl | rfl | rfl | rfl | rfl | rfl <;> rcases hn with rfl | rfl | rfl | rfl | rfl <;> kernel_rfl
section
variable {N : Nms} {X : Cx}
theorem tyV_ok {K : PySem.W.Frag} {m : List Addr} {S : Sto} {H : Hp} {x : Vl} {u : V} {t : String} (s : SR N K m S H) (r : Vr N K m H x u) (e : tyV' S x = some t) : TyX K H u (.type t) ∧ t ∈ (["NoneType", "bool", "int", "str", "tuple", "list", "dict"] : List String) := by
  cases x with
  | non => cases e; cases r; exact ⟨.base .non, by decide⟩
  | bl _ => cases e; cases r; exact ⟨.base (.bl _), by decide⟩
  | int _ => cases e; cases r; exact ⟨.base (.int _), by decide⟩
  | str _ => cases e; cases r; exact ⟨.base (.str _), by decide⟩
  | tup _ => cases e; obtain ⟨a, ys, rfl, h1, _⟩ := r.tup'; exact ⟨.base (.tup h1), by decide⟩
  | ktp _ =>
    cases e
    obtain ⟨a, ys, rfl, h1, _⟩ := r.asT rfl
    refine ⟨?_, by decide⟩
    rcases h1 with (q | ⟨o, q⟩) | ⟨o, its, n, h1, h2, _⟩
    · exact .base (.tup q)
    · exact .fTuple q
    · exact .kTuple h1 h2
  | ref i =>
    obtain ⟨a, rfl, hm⟩ := r.ref'
    simp only [tyV'] at e
    split at e
    · rename_i hS; cases e; obtain ⟨ys, h1, _⟩ := s.lst hm hS; exact ⟨.base (.lst h1), by decide⟩
    · rename_i hS; cases e; obtain ⟨ys, h1, _⟩ := s.dk hm hS; exact ⟨.base (.dK h1), by decide⟩
    · rename_i hS; cases e; obtain ⟨ys, h1, _⟩ := s.dt hm hS; exact ⟨.base (.dT h1), by decide⟩
    · cases e
  | _ => cases e
theorem cm_isi : CallM N X (.builtin "isinstance") vIsi := by
  refine ⟨_, call_isi, fun m S H xs us Q E s r h => ?_⟩
  unfold vIsi at h
  split at h
  · rename_i x n
    obtain ⟨u, w, rfl, ru, rw'⟩ := r.two
    cases rw'
    split at h
    · rename_i t ht
      split at h
      · rename_i hn
        obtain ⟨h1, h2⟩ := tyV_ok s ru ht
        exact ⟨u, .ty n, _, _, _, rfl, .ty n, h1, kit_ty (kit_all t h2 n (by simpa using hn)), h.ok s (.bl _)⟩
      · exact h.elim
    · exact h.elim
  · exact h.elim
end
end Nt

namespace Nt
open PySem PySem.Spec PyProof.Rows L2 Evl
/-! ### methods of built-in types -/
def tyM (T : String) (x : Vl) (S : Sto) : Bool := match x with
  | .str _ => T == "str"
  | .ref i => match S[i]? with
    | some (.lst _) => T == "list"
    | some (.dk _) => T == "dict"
    | some (.dt _) => T == "dict"
    | _ => false
  | _ => false
theorem tyM_ok {N : Nms} {K : PySem.W.Frag} {m : List Addr} {S : Sto} {H : Hp} {x : Vl} {u : V} {T : String} (s : SR N K m S H) (r : Vr N K m H x u) (e : tyM T x S = true) : L2.tyV K T u H := by
  unfold tyM at e
  split at e
  · cases r; exact eq_of_beq e
  · obtain ⟨a, rfl, hm⟩ := r.ref'
    split at e
    · rename_i hS; obtain ⟨ys, h1, _⟩ := s.lst hm hS; exact .inl ⟨eq_of_beq e, _, sq_of h1⟩
    · rename_i hS; obtain ⟨ys, h1, _⟩ := s.dk hm hS; exact .inr (.inr (.inl ⟨eq_of_beq e, .inl ⟨_, h1⟩⟩))
    · rename_i hS; obtain ⟨ys, h1, _⟩ := s.dt hm hS; exact .inr (.inr (.inl ⟨eq_of_beq e, .inr ⟨_, h1⟩⟩))
    · cases e
  · cases e
def xBM (T : String) (g : Vl → List Vl → Sto → Out Vl) (o : XE') (a : XA) : XE' := fun env S => (o env S).bind fun x S1 => if tyM T x S1 = true then (a env S1).bind fun xs S2 => g x xs S2 else .bad
def MtS (N : Nms) (K : PySem.W.Frag) (r : V → List V → Hp → VK → Prop) (g : Vl → List Vl → Sto → Out Vl) : Prop := ∀ m S H x xs u us Q E, SR N K m S H → Vr N K m H x u → Vrs N K m H xs us → Post N K (Vr N K) m H Q E (g x xs S) → r u us H Q
structure MtMM (N : Nms) (X : Cx) (id : String) (g : Vl → List Vl → Sto → Out Vl) : Prop where
  ex : ∃ r, MtR X id r ∧ MtS N X.K r g
section
variable {N : Nms} {X : Cx} {W : L2.St → XK} {o e : Expr} {es : List Expr} {fo : XE'} {fa : XA} {name : Str} {apos cpos : Pos} {T id : String} {g : Vl → List Vl → Sto → Out Vl}
theorem se_bm (hm : MtMM N X id g) (pa : PlainAttrs T) (slot : Slot T name id) (hty : typeOf (.builtin id) = pure (.type "method_descriptor")) (ho : SE N X W o fo) (ha : SA N X W (e :: es) fa)
    (hbase : attributeBase o name X.env (eval o X.env) = eval o X.env := by rfl)
    (hfew : ((backTo cpos (starEach (e :: es) X.env)).all (fun x => !x.1) && (backToKw cpos (keywordEach [] X.env)).all (fun x => x.1.isSome)
      && decide ((e :: es).length + ([] : List Keyword).length + (if ([] : List Keyword).isEmpty then 0 else 1) < 30)) = true := by rfl)
    (hline : (apos.endLine == cpos.line) = true := by rfl) (hs : starEach (e :: es) X.env = (false, eval e X.env) :: starEach es X.env := by rfl) (hplain : (backTo cpos (starEach es X.env)).any (·.1) = false := by rfl) :
    SE N X W (.Call (.Attribute o name apos) (e :: es) [] cpos) (xBM T g fo fa) := by
  obtain ⟨r, h1, h2⟩ := hm.ex
  obtain ⟨t0, p0, s0⟩ := ho.ex
  obtain ⟨t1, p1, s1⟩ := ha.ex
  refine ⟨_, pe_bm pa slot hty h1 p0 p1 hbase hfew hline hs hplain, fun m S H env σ Q s er h => s0.step s er h fun x S1 m1 H1 u e1 sr1 r1 er1 h1 => ?_⟩
  split at h1
  · rename_i hT
    exact ⟨tyM_ok sr1 r1 hT, s1.step sr1 er1 h1 fun xs S2 m2 H2 us e2 sr2 r2 er2 h3 => h2 m2 S2 H2 x xs u us Q _ sr2 (r1.mono e2) r2 h3⟩
  · exact h1.elim
theorem se_bm0 (hm : MtMM N X id g) (pa : PlainAttrs T) (slot : Slot T name id) (hty : typeOf (.builtin id) = pure (.type "method_descriptor")) (ho : SE N X W o fo)
    (hbase : attributeBase o name X.env (eval o X.env) = eval o X.env := by rfl) (hline : (apos.endLine == cpos.line) = true := by rfl) : SE N X W (.Call (.Attribute o name apos) [] [] cpos) (xBM T g fo aNil) := by
  obtain ⟨r, h1, h2⟩ := hm.ex
  obtain ⟨t0, p0, s0⟩ := ho.ex
  refine ⟨_, pe_bm0 pa slot hty h1 p0 hbase hline, fun m S H env σ Q s er h => s0.step s er h fun x S1 m1 H1 u e1 sr1 r1 er1 h1 => ?_⟩
  split at h1
  · rename_i hT
    exact ⟨tyM_ok sr1 r1 hT, h2 m1 S1 H1 x [] u [] Q _ sr1 r1 .nil h1⟩
  · exact h1.elim
def mAppend (x : Vl) (xs : List Vl) (S : Sto) : Out Vl := match x, xs with
  | .ref i, [y] => match S[i]? with
    | some (.lst l) => if l.length < 100000 then .ok .non (S.set i (.lst (l ++ [y]))) else .bad
    | _ => .bad
  | _, _ => .bad
theorem mm_append : MtMM N X "list.append" mAppend := by
  refine ⟨_, mt_append, fun m S H x xs u us Q E s rx rs h => ?_⟩
  unfold mAppend at h
  split at h
  · obtain ⟨a, rfl, hm⟩ := rx.ref'
    obtain ⟨w, rfl, rw'⟩ := rs.one
    split at h
    · rename_i l hS
      split at h
      · rename_i hl
        obtain ⟨ys, h1, h2⟩ := s.lst hm hS
        exact ⟨a, ys, w, rfl, rfl, h1, sz_lt (by rw [← h2.len]; exact hl), h.to (Ext.upd h1 trivial) (s.set hm h1 trivial (.lst (h2.append (.cons rw' .nil)))) .non⟩
      · exact h.elim
    · exact h.elim
  · exact h.elim
def mReverse (x : Vl) (xs : List Vl) (S : Sto) : Out Vl := match x, xs with
  | .ref i, [] => match S[i]? with
    | some (.lst l) => .ok .non (S.set i (.lst l.reverse))
    | _ => .bad
  | _, _ => .bad
theorem mm_reverse : MtMM N X "list.reverse" mReverse := by
  refine ⟨_, mt_reverse, fun m S H x xs u us Q E s rx rs h => ?_⟩
  unfold mReverse at h
  split at h
  · obtain ⟨a, rfl, hm⟩ := rx.ref'
    cases rs.nil'
    split at h
    · rename_i l hS
      obtain ⟨ys, h1, h2⟩ := s.lst hm hS
      exact ⟨a, ys, rfl, rfl, h1, h.to (Ext.upd h1 trivial) (s.set hm h1 trivial (.lst h2.reverse)) .non⟩
    · exact h.elim
  · exact h.elim
def mPop (x : Vl) (xs : List Vl) (S : Sto) : Out Vl := match x, xs with
  | .ref i, [] => match S[i]? with
    | some (.lst l) => match l[l.length - 1]? with
      | some y => .ok y (S.set i (.lst l.dropLast))
      | none => .bad
    | _ => .bad
  | _, _ => .bad
theorem Vrs.dropLast {K : PySem.W.Frag} {m : List Addr} {H : Hp} {xs : List Vl} {us : List V} (r : Vrs N K m H xs us) : Vrs N K m H xs.dropLast us.dropLast := by
  rw [List.dropLast_eq_take, List.dropLast_eq_take, r.len]
  exact r.take _
theorem mm_pop : MtMM N X "list.pop" mPop := by
  refine ⟨_, mt_pop, fun m S H x xs u us Q E s rx rs h => ?_⟩
  unfold mPop at h
  split at h
  · obtain ⟨a, rfl, hm⟩ := rx.ref'
    cases rs.nil'
    split at h
    · rename_i l hS
      split at h
      · rename_i y hy
        obtain ⟨ys, h1, h2⟩ := s.lst hm hS
        obtain ⟨w, h3, h4⟩ := h2.get hy
        have ex : Ext X.K m H m (upd H a (.lst ys.dropLast)) := Ext.upd h1 trivial
        exact ⟨a, ys, w, rfl, rfl, h1, by rw [← h2.len]; exact h3, h.to ex (s.set hm h1 trivial (.lst h2.dropLast)) (h4.mono ex)⟩
      · exact h.elim
    · exact h.elim
  · exact h.elim
def mFind (x : Vl) (xs : List Vl) (S : Sto) : Out Vl := match x, xs with
  | .str a, [.str b] => .ok (.int (PySem.Txt.find a b)) S
  | _, _ => .bad
theorem mm_find : MtMM N X "str.find" mFind := by
  refine ⟨_, mt_find, fun m S H x xs u us Q E s rx rs h => ?_⟩
  unfold mFind at h
  split at h
  · cases rx
    obtain ⟨w, rfl, rw'⟩ := rs.one
    cases rw'
    exact ⟨_, _, rfl, rfl, h.ok s (.int _)⟩
  · exact h.elim
end
/-! ### dicts -/
def isDct (x : Vl) (S : Sto) : Bool := match x with
  | .ref i => match S[i]? with
    | some (.dk _) => true
    | some (.dt _) => true
    | _ => false
  | _ => false
def xGet2 (o k d : XE') : XE' := fun env S => (o env S).bind fun x S1 => if isDct x S1 = true then (k env S1).bind fun y S2 => (d env S2).bind fun z S3 => match x with
  | .ref i => match dGet S3 i y with
    | some r => .ok (r.getD z) S3
    | none => .bad
  | _ => .bad
  else .bad
def xGet1 (o k : XE') : XE' := fun env S => (o env S).bind fun x S1 => if isDct x S1 = true then (k env S1).bind fun y S2 => match x with
  | .ref i => match dGet S2 i y with
    | some r => .ok (r.getD .non) S2
    | none => .bad
  | _ => .bad
  else .bad
section
variable {N : Nms} {X : Cx} {W : L2.St → XK} {o e f : Expr} {fo fe ff : XE'} {apos cpos pos : Pos}
theorem isDct_ok {K : PySem.W.Frag} {m : List Addr} {S : Sto} {H : Hp} {x : Vl} {u : V} (s : SR N K m S H) (r : Vr N K m H x u) (e : isDct x S = true) : ∃ i a, x = .ref i ∧ u = .ref a ∧ m[i]? = some a ∧ IsD H a := by
  unfold isDct at e
  split at e
  · rename_i i
    obtain ⟨a, rfl, hm⟩ := r.ref'
    split at e
    · rename_i hS; obtain ⟨ys, h1, _⟩ := s.dk hm hS; exact ⟨i, a, rfl, rfl, hm, .inl ⟨_, .inl h1⟩⟩
    · rename_i hS; obtain ⟨ys, h1, _⟩ := s.dt hm hS; exact ⟨i, a, rfl, rfl, hm, .inr ⟨_, .inl h1⟩⟩
    · cases e
  · cases e
theorem se_get2 (hu : X.A.units + 64 < cLine) (ho : SE N X W o fo) (he : SE N X W e fe) (hf : SE N X W f ff) (mm : M2 X o "get" apos e f cpos) : SE N X W (.Call (.Attribute o "get" apos) [e, f] [] cpos) (xGet2 fo fe ff) := by
  obtain ⟨t0, p0, s0⟩ := ho.ex
  obtain ⟨t1, p1, s1⟩ := he.ex
  obtain ⟨t2, p2, s2⟩ := hf.ex
  refine ⟨_, pe_dget2 (by omega) p0 p1 p2 mm, fun m S H env σ Q s er h => s0.step s er h fun x S1 m1 H1 u e1 sr1 r1 er1 h1 => ?_⟩
  split at h1
  · rename_i hD
    obtain ⟨i, a, rfl, rfl, hm, hI⟩ := isDct_ok sr1 r1 hD
    refine ⟨a, rfl, hI, s1.step sr1 er1 h1 fun y S2 m2 H2 uy e2 sr2 r2 er2 h2 => ?_⟩
    refine s2.step sr2 er2 h2 fun z S3 m3 H3 uz e3 sr3 r3 er3 h3 => ?_
    dsimp only at h3
    split at h3
    · rename_i r hr
      obtain ⟨o', g, q⟩ := dGet_ok sr3 (e3.pre _ _ (e2.pre _ _ hm)) (r2.mono e3) hr
      refine ⟨o', g, ?_⟩
      cases q with
      | none => exact h3.ok sr3 r3
      | some rr => exact h3.ok sr3 rr
    · exact h3.elim
  · exact h1.elim
theorem se_get1 (hu : X.A.units + 64 < cLine) (ho : SE N X W o fo) (he : SE N X W e fe) (mm : M1 X o "get" apos e cpos) : SE N X W (.Call (.Attribute o "get" apos) [e] [] cpos) (xGet1 fo fe) := by
  obtain ⟨t0, p0, s0⟩ := ho.ex
  obtain ⟨t1, p1, s1⟩ := he.ex
  refine ⟨_, pe_dget1 (by omega) p0 p1 mm, fun m S H env σ Q s er h => s0.step s er h fun x S1 m1 H1 u e1 sr1 r1 er1 h1 => ?_⟩
  split at h1
  · rename_i hD
    obtain ⟨i, a, rfl, rfl, hm, hI⟩ := isDct_ok sr1 r1 hD
    refine ⟨a, rfl, hI, s1.step sr1 er1 h1 fun y S2 m2 H2 uy e2 sr2 r2 er2 h2 => ?_⟩
    dsimp only at h2
    split at h2
    · rename_i r hr
      obtain ⟨o', g, q⟩ := dGet_ok sr2 (e2.pre _ _ hm) r2 hr
      refine ⟨o', g, ?_⟩
      cases q with
      | none => exact h2.ok sr2 .non
      | some rr => exact h2.ok sr2 rr
    · exact h2.elim
  · exact h1.elim
def xDk : XE' := fun _ S => .ok (.ref S.length) (S ++ [.dk []])
def xDt : XE' := fun _ S => .ok (.ref S.length) (S ++ [.dt []])
theorem se_dk : SE N X W (.Dict [] [] pos) xDk := ⟨_, pe_dnewK, fun m S H env σ Q s er h p hp => h.to (Ext.app (Same.new hp)) (s.new (Same.new hp) hp upd_same (.dk .nil)) s.ref_new⟩
theorem se_dt : SE N X W (.Dict [] [] pos) xDt := ⟨_, pe_dnewT, fun m S H env σ Q s er h p hp => h.to (Ext.app (Same.new hp)) (s.new (Same.new hp) hp upd_same (.dt .nil)) s.ref_new⟩
/-! displays: the dict is laid first -/
abbrev XP := En → Sto → Out (List (Vl × Vl))
inductive PR (N : Nms) (K : PySem.W.Frag) (m : List Addr) (H : Hp) : List (Vl × Vl) → List (V × V) → Prop
  | nil : PR N K m H [] []
  | cons {x y : Vl} {u w : V} {l : List (Vl × Vl)} {l' : List (V × V)} : Vr N K m H x u → Vr N K m H y w → PR N K m H l l' → PR N K m H ((x, y) :: l) ((u, w) :: l')
structure SP' (N : Nms) (X : Cx) (W : L2.St → XK) (pos : Pos) (ks : List (Option Expr)) (vs : List Expr) (f : XP) : Prop where
  ex : ∃ t, PPs X pos ks vs t ∧ Sim N X.K (PR N X.K) W (tPairs t) f
def pNil : XP := fun _ S => .ok [] S
def pCons (a b : XE') (r : XP) : XP := fun env S => (a env S).bind fun x S1 => (b env S1).bind fun y S2 => (r env S2).bind fun l S3 => .ok ((x, y) :: l) S3
theorem sp_nil : SP' N X W pos [] [] pNil := ⟨_, pps_nil, fun m S H env σ Q s er h => h.ok s .nil⟩
theorem sp_cons {k v : Expr} {ks : List (Option Expr)} {vs : List Expr} {fk fv : XE'} {r : XP} (hk : SE N X W k fk) (hv : SE N X W v fv) (hr : SP' N X W pos ks vs r) : SP' N X W pos (some k :: ks) (v :: vs) (pCons fk fv r) := by
  obtain ⟨t0, p0, s0⟩ := hk.ex
  obtain ⟨t1, p1, s1⟩ := hv.ex
  obtain ⟨t2, p2, s2⟩ := hr.ex
  refine ⟨_, pps_cons p0 p1 p2, fun m S H env σ Q s er h => s0.step s er h fun x S1 m1 H1 u e1 sr1 r1 er1 h1 => ?_⟩
  refine s1.step sr1 er1 h1 fun y S2 m2 H2 w e2 sr2 r2 er2 h2 => ?_
  exact s2.step sr2 er2 h2 fun l S3 m3 H3 l' e3 sr3 r3 er3 h3 => h3.ok sr3 (.cons ((r1.mono e2).mono e3) (r2.mono e3) r3)
def keyed : List (Vl × Vl) → Option (List (Key × Vl))
  | [] => some []
  | (x, y) :: r => match toK x, keyed r with
    | some k, some l => some ((k, y) :: l)
    | _, _ => none
def mergeL (kvs more : List (Key × Vl)) : List (Key × Vl) := more.foldl (fun acc kv => setK acc kv.1 kv.2) kvs
def xDisp (r : XP) : XE' := fun env S => (r env (S ++ [.dk []])).bind fun l S1 => match S1[S.length]? with
  | some (.dk []) => match keyed l with
    | some kvs => if kvs.length ≤ 15 then .ok (.ref S.length) (S1.set S.length (.dk (mergeL [] kvs))) else .bad
    | none => .bad
  | _ => .bad
theorem keyed_ok {K : PySem.W.Frag} {m : List Addr} {H : Hp} : ∀ {l : List (Vl × Vl)} {l' : List (V × V)} {kvs : List (Key × Vl)}, keyed l = some kvs → PR N K m H l l' → ∃ ks : List (Key × V), l' = ks.map (fun kv => (kV kv.1, kv.2)) ∧ KR N K m H kvs ks
  | [], _, _, e, .nil => by cases e; exact ⟨[], rfl, .nil⟩
  | (x, y) :: l, _, kvs, e, .cons (w := w) h1 h2 r => by
    unfold keyed at e
    split at e
    · rename_i k l2 q1 q2
      cases e
      obtain ⟨ks, h3, h4⟩ := keyed_ok q2 r
      refine ⟨(k, w) :: ks, ?_, .cons h2 h4⟩
      rw [h3, toK_kV q1 h1]
      rfl
    · cases e
theorem merge_ok {K : PySem.W.Frag} {m : List Addr} {H : Hp} {more : List (Key × Vl)} {mo : List (Key × V)} {kvs : List (Key × Vl)} {ks : List (Key × V)} (h : KR N K m H more mo) : KR N K m H kvs ks → KR N K m H (mergeL kvs more) (mergeK ks mo) := by
  induction h generalizing kvs ks with
  | nil => exact fun r => r
  | cons h t ih => exact fun r => ih (r.put h)
theorem se_disp {ks : List (Option Expr)} {vs : List Expr} {r : XP} (h : SP' N X W pos ks vs r) (hall : ks.all (·.isSome) = true := by rfl) (hl : ks.length = vs.length := by rfl) (h0 : ks ≠ [] := by exact fun z => nomatch z) (h15 : ks.length ≤ 15 := by decide) : SE N X W (.Dict ks vs pos) (xDisp r) := by
  obtain ⟨t0, p0, s0⟩ := h.ex
  refine ⟨_, pe_disp p0 hall hl h0 h15, fun m S H env σ Q s er h p hp => ?_⟩
  have eD : Ext X.K m H (m ++ [p]) (upd H p (.dK [])) := Ext.app (Same.new hp)
  have sD := s.new (Same.new hp) hp upd_same (.dk .nil)
  have mD : (m ++ [p])[S.length]? = some p := by
    have := s.ref_new (p := p) (H' := H)
    cases this with | ref z => exact z
  refine s0.step sD (er.mono eD) (Post.mono eD h) fun l S1 m1 H1 l' e1 sr1 r1 er1 h1 => ?_
  split at h1
  · rename_i hS
    obtain ⟨ys, k1, k2⟩ := sr1.dk (e1.pre _ _ mD) hS
    cases k2
    split at h1
    · rename_i kvs hk
      split at h1
      · rename_i hl
        obtain ⟨ks', h3, h4⟩ := keyed_ok hk r1
        refine ⟨k1, ks', h3, by rw [← h4.len]; exact hl, ?_⟩
        have ex : Ext X.K m1 H1 m1 (upd H1 p (.dK (mergeK [] ks'))) := Ext.upd k1 trivial
        exact h1.to ex (sr1.set (e1.pre _ _ mD) k1 trivial (.dk (merge_ok h4 .nil))) (.ref (e1.pre _ _ mD))
      · exact h1.elim
    · exact h1.elim
  · exact h1.elim
end
/-! ### dict comprehensions -/
def dcZ (I : Itm) (g : GM) (t : XT) (k e : XE') (env : En) (D : Nat) : Nat → Nat → Sto → Out Unit
  | n, i, S => match I.nxt i S with
    | .stop => .ok () S
    | .bad => .bad
    | .yld x S1 => match n with
      | 0 => .bad
      | n + 1 => match g x env S1 with
        | .ok e1 S2 => match t e1 S2 with
          | .ok b S3 => if b = true then match k e1 S3 with
              | .ok y S4 => match e e1 S4 with
                | .ok z S5 => match S5[D]?, toK y with
                  | some (.dk kvs), some ky => if kvs.length < 100000 then dcZ I g t k e env D n (i + 1) (S5.set D (.dk (setK kvs ky z))) else .bad
                  | _, _ => .bad
                | _ => .bad
              | _ => .bad
            else dcZ I g t k e env D n (i + 1) S3
          | _ => .bad
        | _ => .bad
theorem dcZ_eq {I : Itm} {g : GM} {t : XT} {k e : XE'} {env : En} {D n i : Nat} {S : Sto} : dcZ I g t k e env D n i S = match I.nxt i S with
    | .stop => .ok () S
    | .bad => .bad
    | .yld x S1 => match n with
      | 0 => .bad
      | n + 1 => match g x env S1 with
        | .ok e1 S2 => match t e1 S2 with
          | .ok b S3 => if b = true then match k e1 S3 with
              | .ok y S4 => match e e1 S4 with
                | .ok z S5 => match S5[D]?, toK y with
                  | some (.dk kvs), some ky => if kvs.length < 100000 then dcZ I g t k e env D n (i + 1) (S5.set D (.dk (setK kvs ky z))) else .bad
                  | _, _ => .bad
                | _ => .bad
              | _ => .bad
            else dcZ I g t k e env D n (i + 1) S3
          | _ => .bad
        | _ => .bad := by
  cases n <;> rw [dcZ]
def xDc (it : En → Sto → Out Itm) (g : GM) (t : XT) (k e : XE') (vs : List Nat) : XE' := fun env S => (it env S).bind fun I S1 => (dcZ I g t k e (wipeE env vs) S1.length I.fuel 0 (S1 ++ [.dk []])).bind fun _ S2 => .ok (.ref S1.length) S2
section
variable {N : Nms} {X : Cx} {W : L2.St → XK} {kx vx tg iter : Expr} {scope : Scope} {own : List (Str × Nat)} {pos : Pos} {fi : En → Sto → Out Itm} {gm : GM} {ft : XT} {fk fe : XE'} {g : TG}
theorem sim_dc {K : PySem.W.Frag} {wi : TI} {tt : TT} {tk te : TE} {vs : List Nat} (s0 : Sim N K (ItR N K) W wi fi) (s1 : SimGV N K vs g gm) (s2 : Sim N K RvB (fun _ => E0) tt ft) (s3 : Sim N K (Vr N K) (fun _ => E0) tk fk) (s4 : Sim N K (Vr N K) (fun _ => E0) te fe) (h0 : N.xh = none) : Sim N K (Vr N K) W (tDc wi g tt tk te vs) (xDc fi gm ft fk fe vs) := fun m S H env σ Q s er h =>
  s0.step s er h fun I S1 m1 H1 J e1 sr1 r1 er1 h1 => fun D hD => by
    have sD := sr1.new (o := .dk []) (Same.new hD) hD upd_same (.dk .nil)
    have eD : Ext K m1 H1 (m1 ++ [D]) (upd H1 D (.dK [])) := Ext.app (Same.new hD)
    have mD : (m1 ++ [D])[S1.length]? = some D := by
      have := sr1.ref_new (p := D) (H' := H1)
      cases this with | ref z => exact z
    refine ⟨fun i n H' => ∃ m' S', Ext K (m1 ++ [D]) (upd H1 D (.dK [])) m' H' ∧ SR N K m' S' H' ∧ Post N K (Vr N K) m' H' Q (W σ) ((dcZ I gm ft fk fe (wipeE env vs) S1.length n i S').bind fun _ S2 => .ok (.ref S1.length) S2), ⟨I.fuel, m1 ++ [D], S1 ++ [.dk []], Ext.refl, sD, Post.mono eD h1⟩, ?_⟩
    rintro i n H' ⟨m', S', e', s', h'⟩
    rw [dcZ_eq] at h'
    have hJ := r1 m' S' H' i (eD.trans e') s'
    cases q : I.nxt i S' with
    | stop =>
      rw [q] at h' hJ
      exact .inl ⟨hJ, h'.ok s' (.ref (e'.pre _ _ mD))⟩
    | bad => rw [q] at h'; exact h'.elim
    | yld x S2 =>
      rw [q] at h' hJ
      cases n with
      | zero => exact h'.elim
      | succ n =>
        refine .inr ⟨hJ.1, fun H'' => ∃ m' S', Ext K (m1 ++ [D]) (upd H1 D (.dK [])) m' H'' ∧ SR N K m' S' H'' ∧ Post N K (Vr N K) m' H'' Q (W σ) ((dcZ I gm ft fk fe (wipeE env vs) S1.length n (i + 1) S').bind fun _ S2 => .ok (.ref S1.length) S2), fun H'' z => ⟨n, Nat.lt_succ_self n, z⟩, fun u H2 hy => ?_⟩
        obtain ⟨m2, e2, s2', r2⟩ := hJ.2 u H2 hy
        have h2 := Post.mono e2 h'
        have er2 : EnR N K m2 H2 (wipeE env vs) (L2.wipe σ vs) := EnR.wipe h0 ((er1.mono (eD.trans e')).mono e2) vs
        dsimp only at h2
        cases q3 : gm x (wipeE env vs) S2 with
        | err c' x' S3 => rw [q3] at h2; exact h2.elim
        | bad => rw [q3] at h2; exact h2.elim
        | ok env3 S3 =>
          rw [q3] at h2
          dsimp only at h2
          refine s1 m2 S2 H2 (wipeE env vs) (L2.wipe σ vs) x u _ env3 S3 s2' er2 r2 q3 fun m3 H3 σ3 e3 s3' er3 hw => ⟨hw.trans (wipe_wipe σ vs), ?_⟩
          have h3 := Post.mono e3 h2
          refine s2 m3 S3 H3 env3 σ3 _ s3' er3 ?_
          cases q4 : ft env3 S3 with
          | ok b S4 =>
            rw [q4] at h3
            intro m4 H4 b' e4 s4' rb
            cases rb
            have h4 := Post.mono e4 h3
            dsimp only at h4
            cases b with
            | true =>
              rw [if_pos rfl] at h4 ⊢
              refine s3 m4 S4 H4 env3 σ3 _ s4' (er3.mono e4) ?_
              cases q5 : fk env3 S4 with
              | ok y S5 =>
                rw [q5] at h4
                intro m5 H5 uy e5 s5 ry
                have h5 := Post.mono e5 h4
                dsimp only at h5
                refine s4 m5 S5 H5 env3 σ3 _ s5 ((er3.mono e4).mono e5) ?_
                cases q7 : fe env3 S5 with
                | ok z S6 =>
                  rw [q7] at h5
                  intro m6 H6 uz e6 s6 rz
                  have h6 := Post.mono e6 h5
                  dsimp only at h6
                  have mD6 := ((((((e'.trans e2).trans e3).trans e4).trans e5).trans e6).pre _ _ mD)
                  split at h6
                  · rename_i kvs ky hS hk
                    obtain ⟨ys, k1, k2⟩ := s6.dk mD6 hS
                    split at h6
                    · rename_i hl
                      have ex : Ext K m6 H6 m6 (upd H6 D (.dK (putK ys ky uz))) := Ext.upd k1 trivial
                      exact ⟨ys, ky, toK_kV hk ry, k1, sz_lt (by rw [← k2.len]; exact hl), m6, _, (((((e'.trans e2).trans e3).trans e4).trans e5).trans e6).trans ex, s6.set mD6 k1 trivial (.dk (k2.put rz)), Post.mono ex h6⟩
                    · exact h6.elim
                  · exact h6.elim
                | err c' x' S6 => rw [q7] at h5; exact h5.elim
                | bad => rw [q7] at h5; exact h5.elim
              | err c' x' S5 => rw [q5] at h4; exact h4.elim
              | bad => rw [q5] at h4; exact h4.elim
            | false =>
              rw [if_neg Bool.false_ne_true] at h4 ⊢
              exact ⟨m4, S4, ((e'.trans e2).trans e3).trans e4, s4', h4⟩
          | err c' x' S4 => rw [q4] at h3; exact h3.elim
          | bad => rw [q4] at h3; exact h3.elim
theorem se_dc (hc : X.calm = true) (hN : X.N.Nodup) (hi : SI N X W tg iter fi) (ok : BlkOk X.N X.env.scope scope own) (hgv : SimGV N X.K (own.map (·.2)) g gm)
    (hg : ∀ (s : Shared) (H : Hp) (C : Addr) (cl : List (Str × Addr)) (fp : List Addr), PG (X.blk s H scope (compEnvC scope cl C X.env) fp) tg g) (hk : ∀ (s : Shared) (H : Hp) (C : Addr) (cl : List (Str × Addr)) (fp : List Addr), SE N (X.blk s H scope (compEnvC scope cl C X.env) fp) (fun _ => E0) kx fk)
    (he : ∀ (s : Shared) (H : Hp) (C : Addr) (cl : List (Str × Addr)) (fp : List Addr), SE N (X.blk s H scope (compEnvC scope cl C X.env) fp) (fun _ => E0) vx fe)
    (hs : ∀ x, foldedSetIterable iter X.env x = pure x := by intro _; rfl) (h0 : N.xh = none := by rfl) : SE N X W (.DictComp kx vx [⟨tg, iter, [], 0⟩] scope pos) (xDc fi gm yYes fk fe (own.map (·.2))) := by
  obtain ⟨wi, p0, s0⟩ := hi.ex
  exact ⟨_, pe_dc hc hN p0 ok hg (fun _ _ _ _ _ => pts_nil) (fun s H C cl fp => (hk s H C cl fp).pe) (fun s H C cl fp => (he s H C cl fp).pe) hs, sim_dc s0 hgv sim_yes cE_sim cE_sim h0⟩
end
end Nt

namespace Nt
open PySem PySem.Spec PyProof.Rows L2 Evl
/-! ### the names -/
def gnL : List Str := (["WORDS", "BODIES", "CHECKS", "is_set", "is_add", "is_wait", "is_ask", "is_answer", "is_one_term", "HouseError", "BadProgram", "BadText", "BadSide", "BadSteps", "BadHistory", "BadRow", "SHOWN", "if_lines", "while_lines", "ask_lines", "READERS", "read_variable", "read_value", "read_term", "read_steps", "read_answer", "read_comparison", "FORMS", "Block", "Reader"] : List Str) ++ (["BLOCKS", "place_if", "place_while", "Walk", "ACTIONS", "do_set", "do_add", "do_wait", "do_ask", "do_answer", "do_grow", "do_list", "do_test", "do_jump", "Run", "TooMany", "Listing", "NoMachine", "Full", "Busy", "Unsettled", "NothingDone", "OTHERS", "Teller", "Collector", "KINDS", "make_teller", "make_collector", "State", "House"] : List Str) ++ (["ROWS", "say_arrive", "say_withdraw", "say_undo", "say_advance", "say_settle", "say_clock", "say_members", "say_state", "say_paper", "COUNTS", "Desk", "DEEDS", "do_arrive", "do_withdraw", "do_advance", "SIZES", "OUTCOMES", "ANSWERS", "shows_listed", "shows_spent", "shows_teller", "shows_collector", "SHOWN_notation", "KINDS_machines", "SHOWN_looker", "KINDS_looker"] : List Str)
def fnL : List Str := (["line", "index", "word", "condition", "bodies", "kind", "blocks", "many", "replied", "counter", "code", "position", "known", "steps", "variables", "requested", "listed", "outcome", "asked", "answer", "length", "first", "second", "period", "shift", "head", "cycle", "number", "most", "rank_number"] : List Str) ++ (["program", "side", "is_waiting", "known_run", "begun", "acted", "listing", "now", "next_number", "sets", "machines", "greatest", "standing", "deeds", "earlier", "is_busy", "house"] : List Str)
def pad (i : Nat) : Str := ⟨Array.replicate (i + 1000) 63⟩
def gn (i : Nat) : Str := gnL.getD i (pad i)
def fnm (i : Nat) : Str := fnL.getD i (pad i)
theorem fnL_ok : (fnL.all fun x => decide (x.cps.size < 1000)) = true ∧ fnL.Nodup := by decide +kernel
theorem fnm_in {i : Nat} (h : i < fnL.length) : fnm i = fnL[i] := by
  unfold fnm
  rw [List.getD_eq_getElem?_getD, List.getElem?_eq_getElem h]
  rfl
theorem fnm_out {i : Nat} (h : ¬ i < fnL.length) : fnm i = pad i := by
  unfold fnm
  rw [List.getD_eq_getElem?_getD, List.getElem?_eq_none (by omega)]
  rfl
theorem fnm_size {i : Nat} (h : i < fnL.length) : (fnm i).cps.size < 1000 := by
  rw [fnm_in h]
  have := List.all_eq_true.mp fnL_ok.1 _ (List.getElem_mem h)
  simpa using this
theorem pad_size (i : Nat) : (pad i).cps.size = i + 1000 := by
  show (Array.replicate (i + 1000) 63).size = _
  rw [Array.size_replicate]
theorem fnm_inj (i j : Nat) (h : fnm i = fnm j) : i = j := by
  by_cases hi : i < fnL.length
  · by_cases hj : j < fnL.length
    · rw [fnm_in hi, fnm_in hj] at h
      exact (List.getElem_inj fnL_ok.2).mp h
    · have h1 := fnm_size hi
      rw [h, fnm_out hj, pad_size] at h1
      omega
  · by_cases hj : j < fnL.length
    · have h1 := fnm_size hj
      rw [← h, fnm_out hi, pad_size] at h1
      omega
    · have h1 := pad_size i
      rw [← fnm_out hi, h, fnm_out hj, pad_size] at h1
      omega
def NN : Nms := ⟨gn, fnm, fnm_inj, none, none⟩
theorem nof {md : Str} (h : ((fnL.all fun x => decide (x ≠ md)) && decide (md.cps.size < 1000)) = true) : ∀ i, NN.f i ≠ md := fun i q => by
  obtain ⟨h1, h2⟩ := He.ba h
  by_cases hi : i < fnL.length
  · have q' : fnL[i] = md := by rw [← fnm_in hi]; exact q
    have := List.all_eq_true.mp h1 _ (List.getElem_mem hi)
    exact absurd q' (of_decide_eq_true this)
  · have h3 := pad_size i
    rw [← fnm_out hi, show fnm i = md from q] at h3
    have := of_decide_eq_true h2
    omega
end Nt

namespace Nt
open PySem PySem.Spec PyProof.Rows L2 Evl
section
variable {N : Nms} {X : Cx} {W : L2.St → XK} {e a b c : Expr} {fa fb fc : XE'} {pos p : Pos} {x : Str} {g g' : Vl → Vl → Sto → Out Vl}
theorem sim_chain {ta tb tc : TE} {r r' : R2} (h1 : OpS N X.K r g) (h2 : OpS N X.K r' g') (s1 : Sim N X.K (Vr N X.K) W ta fa) (s2 : Sim N X.K (Vr N X.K) W tb fb) (s3 : Sim N X.K (Vr N X.K) W tc fc) : Sim N X.K (Vr N X.K) W (tChain r r' ta tb tc) (xChain g g' fa fb fc) := fun m S H env σ Q s er h =>
  s1.step s er h fun x S1 m1 H1 u e1 sr1 r1 er1 k1 => s2.step sr1 er1 k1 fun y S2 m2 H2 w e2 sr2 r2 er2 k2 => by
    refine h1 m2 S2 H2 x y u w _ (W σ) sr2 (r1.mono e2) r2 ?_
    cases q : g x y S2 with
    | ok z S3 =>
      rw [q] at k2
      intro m3 H3 uz e3 sr3 rz
      cases z with
      | bl k =>
        cases rz
        refine ⟨k, rfl, ?_⟩
        have k3 := Post.mono e3 k2
        cases k with
        | true =>
          rw [if_pos rfl]
          have k3' : Post N X.K (Vr N X.K) m3 H3 Q (W σ) ((fc env S3).bind fun w S5 => g' y w S5) := k3
          exact s3.step sr3 (er2.mono e3) k3' fun z S4 m4 H4 u4 e4 sr4 r4 er4 k4 => h2 m4 S4 H4 y z w u4 Q _ sr4 ((r2.mono e3).mono e4) r4 k4
        | false =>
          rw [if_neg Bool.false_ne_true]
          exact Post.ok (S := S3) (R := Vr N X.K) (v := .bl false) k3 sr3 (.bl false)
      | _ => exact k2.elim
    | err c' x' S3 => rw [q] at k2; exact k2
    | bad => rw [q] at k2; exact k2
theorem se_chain {op op' : CmpOp} (ho : OpM N X (compareOp op) g) (ho' : OpM N X (compareOp op') g') (ha : SE N X W a fa) (hb : SE N X W b fb) (hc : SE N X W c fc) (hm : lastMarks [op, op'] [b, c] = false := by with_unfolding_all rfl) : SE N X W (.Compare a [op, op'] [b, c] pos) (xChain g g' fa fb fc) := by
  obtain ⟨r, h1, h2⟩ := ho.ex
  obtain ⟨r', h1', h2'⟩ := ho'.ex
  obtain ⟨ta, p1, s1⟩ := ha.ex
  obtain ⟨tb, p2, s2⟩ := hb.ex
  obtain ⟨tc, p3, s3⟩ := hc.ex
  exact ⟨_, pe_chain h1 h1' p1 p2 p3 hm, sim_chain h2 h2' s1 s2 s3⟩
def yChain (g g' : Vl → Vl → Sto → Out Vl) (a b c : XE') : XT := fun env S => (xChain g g' a b c env S).bind toB
theorem st_chain {op op' : CmpOp} (ho : OpM N X (compareOp op) g) (ho' : OpM N X (compareOp op') g') (ha : SE N X W a fa) (hb : SE N X W b fb) (hc : SE N X W c fc) (hm : lastMarks [op, op'] [b, c] = false := by with_unfolding_all rfl) : ST N X W (.Compare a [op, op'] [b, c] pos) (yChain g g' fa fb fc) := by
  obtain ⟨r, h1, h2⟩ := ho.ex
  obtain ⟨r', h1', h2'⟩ := ho'.ex
  obtain ⟨ta, p1, s1⟩ := ha.ex
  obtain ⟨tb, p2, s2⟩ := hb.ex
  obtain ⟨tc, p3, s3⟩ := hc.ex
  exact ⟨_, pt_chain h1 h1' p1 p2 p3 hm, sim_test (sim_chain h2 h2' s1 s2 s3)⟩
/-- a written tuple of the module -/
theorem se_gtup {y : Addr} {ys : List V} {xs : List Vl} (hg : Gl X x) (hm : X.mg x = some (.ref y)) (ht : ∀ H : Hp, SqT X.K H y ys) (hr : ∀ m H, Vrs N X.K m H xs ys) (hd : (x == ("__debug__" : Str)) = false := by decide) : SE N X W (.Name x pos) (xC (.ktp xs)) :=
  ⟨_, pe_gref hg hm hd, fun m S H env σ Q s er h => h.ok s (.ktp (ht H) (hr m H))⟩
end
section
variable {N : Nms} {K : PySem.W.Frag} {x qual : Str} {params : Arguments} {body : List Stmt} {scope : Scope} {dvs : List V} {kws : List (Str × V)} {f : Addr} {ps : List Str}
/-- keywords, no defaults -/
theorem bd_nk (n : Nat) (ks : List Str) (g : {α : Type} → List α → List α → List α) (hrel : ∀ {vs zs : List V} {us ws : List Value}, Vals vs us → Vals zs ws → Vals (g vs zs) (g us ws))
    (hL : ∀ (m : List Addr) (H : Hp) (xs zs : List Vl) (us ws : List V), Vrs N K m H xs us → Vrs N K m H zs ws → Vrs N K m H (g xs zs) (g us ws))
    (hb : ∀ (kV doc pm : Value) (an : Option Addr) (cdv ct : Value) (us ws : List Value), us.length = n → ws.length = ks.length → bindArgs (PySem.W.fnOf x qual params body scope .none kV doc pm an cdv ct) ⟨us, ks.zip ws⟩ = pure (ps.zip (g us ws))) :
    Bd N K (FunD K x qual params body scope [] kws f) ps n ks (fun xs zs => g xs zs) := fun fd F => by
  obtain ⟨oc, od, dV, kV, doc, pm, an, cdv, ct, osl, rfl, lk, hcd, hD, hK⟩ := F.ex
  rcases hD with ⟨_, rfl⟩ | ⟨e, _⟩
  · exact ⟨fun us ws => g us ws, fun us ws => g us ws, ⟨fun s us ws X l1 l2 => .of_eq (hb kV doc pm an cdv ct us ws l1 l2), fun r1 r2 => hrel r1 r2⟩, fun m H xs us zs ws r1 r2 => hL m H xs zs us ws r1 r2⟩
  · exact absurd rfl e
/-- keyword-only defaults, ms of them taken -/
theorem bd_kw (n : Nat) (ks : List Str) (ms : List (Str × V)) (g : {α : Type} → List α → List α → List α → List α) (msL : List Vl) (hk : kws ≠ []) (hms : ∀ q ∈ ms, q ∈ kws)
    (hrel : ∀ {vs mz zs : List V} {us mv ws : List Value}, Vals vs us → Vals mz mv → Vals zs ws → Vals (g vs mz zs) (g us mv ws))
    (hL : ∀ (m : List Addr) (H : Hp) (xs zs : List Vl) (us ws : List V), Vrs N K m H xs us → Vrs N K m H zs ws → Vrs N K m H (g xs msL zs) (g us (ms.map (·.2)) ws))
    (h : ∀ (D : Addr) (doc pm : Value) (an : Option Addr) (cdv ct : Value) (us mv ws : List Value), us.length = n → mv.length = ms.length → ws.length = ks.length →
      KwChain D ((ms.map (·.1)).zip mv) (bindArgs (PySem.W.fnOf x qual params body scope .none (.ref D) doc pm an cdv ct) ⟨us, ks.zip ws⟩) (ps.zip (g us mv ws))) :
    Bd N K (FunD K x qual params body scope [] kws f) ps n ks (fun xs zs => g xs msL zs) := fun fd F => by
  obtain ⟨mv, hb⟩ := F.kbinds0 n ks ms g hk hms hrel h
  exact ⟨_, _, hb, fun m H xs us zs ws r1 r2 => hL m H xs zs us ws r1 r2⟩
end
/-- a def that is not called -/
theorem fn_bad {N : Nms} {P : Program} {w : World} {K : PySem.W.Frag} {mg : Str → Option Value} {base : Heap} {CX : CXT} {k : Nat} {x qual : Str} {params : Arguments} {body : List Stmt} {scope : Scope} {dvs : List V} {kws : List (Str × V)} {f : Addr} {ps : List Str}
    (F : ∃ fd, FunD K x qual params body scope dvs kws f fd) : FnM N P w K mg base CX k f (FunD K x qual params body scope dvs kws f) ps (fun _ _ => .bad) := by
  obtain ⟨fd, F⟩ := F
  exact ⟨fd, F, F.kp, ⟨fun vs H Q E h => by obtain ⟨_, _, _, _, _, _, z⟩ := h; exact z.elim, fun A outer s H args us vs Q E _ _ _ _ h => by obtain ⟨_, _, _, _, _, _, z⟩ := h; exact z.elim⟩⟩
/-- a def that is known by an older promise -/
theorem fn_of_def {N : Nms} {P : Program} {w : World} {K : PySem.W.Frag} {mg : Str → Option Value} {base : Heap} {CX : CXT} {k : Nat} {x : Str} {ps : List Str} {sp : Sp} {mf : List Vl → Sto → Out Vl} (D : Def P w K mg base CX k x ps sp) (hg : mg x = some (.ref (He.ga K x)))
    (h : ∀ vs H Q E, spM N K ps.length mf vs H Q E → sp vs H Q E) : ∃ T, FnM N P w K mg base CX k (He.ga K x) T ps mf ∧ Bd N K T ps ps.length [] (fun xs _ => xs) := by
  obtain ⟨f, fd, h1, h2, h3, h4⟩ := D.ex
  rw [hg] at h1
  cases h1
  refine ⟨fun fd' => fd' = fd, ⟨fd, rfl, h2, h4.imp h⟩, fun fd' e => ?_⟩
  subst e
  refine ⟨fun us _ => us, fun us _ => us, ⟨fun s us ws X l1 l2 => ?_, fun r _ => r⟩, fun m H xs us zs ws r _ => r⟩
  have := h3 s us X (by rw [List.append_nil]; exact l1)
  rw [List.append_nil] at this
  exact this
/-! ### the end of a law -/
theorem law_end {N : Nms} {K : PySem.W.Frag} {H : Hp} {a : Addr} {ns : List Int} {mf : List Vl → Sto → Out Vl} (hO : Only H) (hS : SqL K H a (ns.map V.int)) (h : ∃ S', mf [.scr ns] [] = .ok (.bl true) S') : spM N K 1 mf [.ref a] H (fun v _ => v = .bl true) (fun _ _ _ => False) := by
  obtain ⟨S', h⟩ := h
  refine ⟨[], [], [.scr ns], rfl, ⟨rfl, fun i j a h _ => (by rw [List.getElem?_nil] at h; cases h), fun i o h => (by rw [List.getElem?_nil] at h; cases h)⟩, .cons (.scr ?_) .nil, ?_⟩
  · rcases hS with (q | ⟨o, q⟩) | q
    · rcases hO a with z | ⟨o, xs, z⟩
      · rw [q] at z; cases z
      · rw [q] at z; cases z
    · exact .inl ⟨o, q⟩
    · exact .inr q
  · rw [h]
    exact fun m' H' u _ _ r => by cases r; rfl
theorem FnM.fn {N : Nms} {P : Program} {w : World} {K : PySem.W.Frag} {mg : Str → Option Value} {base : Heap} {CX : CXT} {k : Nat} {x qual : Str} {params : Arguments} {body : List Stmt} {scope : Scope} {dvs : List V} {kws : List (Str × V)} {f : Addr} {fd : FuncData} {ps : List Str} {mf : List Vl → Sto → Out Vl}
    (D : FnM N P w K mg base CX k f (FunD K x qual params body scope dvs kws f) ps mf) (F : FunD K x qual params body scope dvs kws f fd) : FnOk P w K mg base CX k f fd ps (spM N K ps.length mf) := by
  obtain ⟨fd', F', _, G⟩ := D.ex
  obtain ⟨oc, od, dV, kV, doc, pm, an, cdv, ct, osl, e1, lk, _⟩ := F.ex
  obtain ⟨oc', od', dV', kV', doc', pm', an', cdv', ct', osl', e1', lk', _⟩ := F'.ex
  rw [lk] at lk'
  injection lk' with lk'
  injection lk' with h1 h2 h3 h4
  injection h3 with h3
  rw [h3]
  exact G
/-! ### evaluation -/
theorem vEq_int {i j : Int} {S : Sto} : vEq (.int i) (.int j) S = .ok (.bl (decide (i = j))) S := by
  show Out.ok (Vl.bl (PyData.eqv (.int i) (.int j))) S = _
  rw [PyData.eqv]
  congr 2
theorem vEq_str {i j : Str} {S : Sto} : vEq (.str i) (.str j) S = .ok (.bl (decide (i = j))) S := by
  show Out.ok (Vl.bl (PyData.eqv (.str i) (.str j))) S = _
  rw [PyData.eqv]
  congr 2
theorem vNe_int {i j : Int} {S : Sto} : vNe (.int i) (.int j) S = .ok (.bl (!decide (i = j))) S := by
  show Out.ok (Vl.bl (!PyData.eqv (.int i) (.int j))) S = _
  rw [PyData.eqv]
  congr 2
theorem vNe_str {i j : Str} {S : Sto} : vNe (.str i) (.str j) S = .ok (.bl (!decide (i = j))) S := by
  show Out.ok (Vl.bl (!PyData.eqv (.str i) (.str j))) S = _
  rw [PyData.eqv]
  congr 2
theorem get_app {S T : Sto} {i : Nat} {o : Ob} (h : S[i]? = some o) : (S ++ T)[i]? = some o := by
  have hi : i < S.length := by
    rcases Nat.lt_or_ge i S.length with q | q
    · exact q
    · rw [List.getElem?_eq_none q] at h; cases h
  rw [List.getElem?_append_left hi]; exact h
theorem get_lt {S : Sto} {i : Nat} {o : Ob} (h : S[i]? = some o) : i < S.length := by
  rcases Nat.lt_or_ge i S.length with q | q
  · exact q
  · rw [List.getElem?_eq_none q] at h; cases h
theorem get_new {S : Sto} {o : Ob} : (S ++ [o])[S.length]? = some o := by
  rw [List.getElem?_append_right (Nat.le_refl _), Nat.sub_self]
  rfl
theorem get_set {S : Sto} {i : Nat} {o p : Ob} (h : S[i]? = some o) : (S.set i p)[i]? = some p := by
  rw [List.getElem?_set_self (get_lt h)]
theorem get_set_ne {S : Sto} {i j : Nat} {p : Ob} (h : i ≠ j) : (S.set i p)[j]? = S[j]? := List.getElem?_set_ne h
/-- nothing changes but at ids and behind -/
structure Kp (ids : List Nat) (S S' : Sto) : Prop where
  len : S.length ≤ S'.length
  same : ∀ i, i < S.length → i ∉ ids → S'[i]? = S[i]?
theorem Kp.refl {ids : List Nat} {S : Sto} : Kp ids S S := ⟨Nat.le_refl _, fun _ _ _ => rfl⟩
theorem Kp.trans {ids : List Nat} {S S1 S2 : Sto} (a : Kp ids S S1) (b : Kp ids S1 S2) : Kp ids S S2 := ⟨Nat.le_trans a.len b.len, fun i h n => (b.same i (Nat.lt_of_lt_of_le h a.len) n).trans (a.same i h n)⟩
theorem Kp.set {ids : List Nat} {S : Sto} {i : Nat} {o : Ob} (h : i ∈ ids) : Kp ids S (S.set i o) := ⟨by rw [List.length_set]; exact Nat.le_refl _, fun j _ n => get_set_ne fun e => n (e ▸ h)⟩
theorem Kp.app {ids : List Nat} {S T : Sto} : Kp ids S (S ++ T) := ⟨by rw [List.length_append]; omega, fun j h _ => List.getElem?_append_left h⟩
theorem Kp.mono {ids js : List Nat} {S S' : Sto} (h : Kp ids S S') (hs : ∀ i, i ∈ ids → i ∈ js) : Kp js S S' := ⟨h.len, fun i hi n => h.same i hi fun z => n (hs i z)⟩
theorem Kp.get {ids : List Nat} {S S' : Sto} {i : Nat} {o : Ob} (h : Kp ids S S') (ho : S[i]? = some o) (n : i ∉ ids) : S'[i]? = some o := by rw [h.same i (get_lt ho) n]; exact ho
/-- what is new may change -/
theorem Kp.late {ids : List Nat} {S S1 S2 : Sto} {js : List Nat} (a : Kp ids S S1) (b : Kp js S1 S2) (h : ∀ i, i ∈ js → i ∈ ids ∨ S.length ≤ i) : Kp ids S S2 := ⟨Nat.le_trans a.len b.len, fun i hi n => (b.same i (Nat.lt_of_lt_of_le hi a.len) fun z => by
  rcases h i z with q | q
  · exact n q
  · omega).trans (a.same i hi n)⟩
/-! loops -/
theorem forZ_inv {I : Itm} {g : GM} {f : ZS} (xs : List Vl) (P : Nat → En → Sto → Prop) (hI : ∀ i env S, P i env S → I.nxt i S = (match xs[i]? with | some x => .yld x S | none => .stop))
    (hs : ∀ i x env S, xs[i]? = some x → P i env S → ∃ e1 S1 e2 S2, g x env S = .ok e1 S1 ∧ (f e1 S1 = .ok (.nx e2) S2 ∨ f e1 S1 = .ok (.ct e2) S2) ∧ P (i + 1) e2 S2) :
    ∀ (n i : Nat) env S, xs.length ≤ n + i → i ≤ xs.length → P i env S → ∃ e S', forZ I g f n i env S = .ok (.nx e) S' ∧ P xs.length e S'
  | n, i, env, S, hn, hi, hP => by
    rw [forZ_eq, hI i env S hP]
    cases hx : xs[i]? with
    | none =>
      have : xs.length ≤ i := List.getElem?_eq_none_iff.mp hx
      have e : i = xs.length := by omega
      subst e
      exact ⟨env, S, rfl, hP⟩
    | some x =>
      have hl : i < xs.length := (List.getElem?_eq_some_iff.mp hx).1
      cases n with
      | zero => omega
      | succ n =>
        obtain ⟨e1, S1, e2, S2, h1, h2, h3⟩ := hs i x env S hx hP
        obtain ⟨e, S', h4, h5⟩ := forZ_inv xs P hI hs n (i + 1) e2 S2 (by omega) (by omega) h3
        refine ⟨e, S', ?_, h5⟩
        dsimp only
        rw [h1]
        rcases h2 with h2 | h2 <;> (simp only [Out.bindS_ok, h2]; exact h4)
theorem nxt_T {xs : List Vl} {i : Nat} {S : Sto} : (itT xs).nxt i S = (match xs[i]? with | some x => .yld x S | none => .stop) := rfl
theorem nxt_L {xs : List Vl} {i j n : Nat} {S : Sto} (h : S[j]? = some (.lst xs)) : (itL j n).nxt i S = (match xs[i]? with | some x => .yld x S | none => .stop) := by
  show (match S[j]? with
    | some (.lst xs) => match xs[i]? with
      | some x => Yd.yld x S
      | none => .stop
    | _ => .bad) = _
  rw [h]
def rngL (lo : Int) (n : Nat) : List Vl := (List.range n).map fun i => .int (lo + (i : Nat))
theorem nxt_R {lo : Int} {n i : Nat} {S : Sto} : (itR lo n).nxt i S = (match (rngL lo n)[i]? with | some x => .yld x S | none => .stop) := by
  show (if i < n then Yd.yld (.int (lo + (i : Nat))) S else .stop) = _
  unfold rngL
  rw [List.getElem?_map]
  split
  · rename_i h; rw [List.getElem?_range h]; rfl
  · rename_i h; rw [List.getElem?_eq_none (by rw [List.length_range]; omega)]; rfl
theorem rngL_len {lo : Int} {n : Nat} : (rngL lo n).length = n := by unfold rngL; rw [List.length_map, List.length_range]
theorem rngL_get {lo : Int} {n i : Nat} {x : Vl} (h : (rngL lo n)[i]? = some x) : i < n ∧ x = .int (lo + (i : Nat)) := by
  unfold rngL at h
  rw [List.getElem?_map] at h
  cases q : (List.range n)[i]? with
  | none => rw [q] at h; cases h
  | some j =>
    rw [q] at h
    cases h
    have h1 := (List.getElem?_eq_some_iff.mp q).1
    rw [List.length_range] at h1
    rw [List.getElem?_range h1] at q
    cases q
    exact ⟨h1, rfl⟩
/-! ### a law whose defs may raise, but does not -/
def CXA (P : Program) : CXT := fun outer H s E u s' => ∃ w, L2N.CX P w outer H s E u s'
theorem CXA.no {P : Program} {outer : List Env} {H : Hp} {s : Shared} {u : Value} {s' : Shared} (h : CXA P outer H s (fun _ _ _ => False) u s') : False := by
  obtain ⟨w, a, B, H', cls, d, _, _, _, _, _, _, _, hE⟩ := h
  exact hE
theorem any_ok {P : Program} {w : World} {K : PySem.W.Frag} {mg : Str → Option Value} {base : Heap} {k : Nat} {f : Addr} {fd : FuncData} {ps : List Str} {sp : Sp} (F : FnOk P w K mg base (L2N.CX P w) k f fd ps sp) : FnOk P w K mg base (CXA P) k f fd ps sp :=
  ⟨F.len, fun A outer s H args us vs Q E hr he hb hv hs => codeAny_mono (F.run A outer s H args us vs Q E hr he hb hv hs) fun r s' x => by
    cases r with
    | ok v =>
      cases v <;> exact x
    | error e => exact ⟨w, x⟩⟩
theorem any_ok0 {P : Program} {w : World} {K : PySem.W.Frag} {mg : Str → Option Value} {base : Heap} {k : Nat} {f : Addr} {fd : FuncData} {ps : List Str} {sp : Sp} (F : FnOk P w K mg base L2.CX0 k f fd ps sp) : FnOk P w K mg base (CXA P) k f fd ps sp :=
  ⟨F.len, fun A outer s H args us vs Q E hr he hb hv hs => codeAny_mono (F.run A outer s H args us vs Q E hr he hb hv hs) fun r s' x => by
    cases r with
    | ok v =>
      cases v <;> exact x
    | error e => exact (show False from x).elim⟩
end Nt

namespace Nt
open PySem PySem.Spec PyProof.Rows L2 Evl
/-! ### == and != by an own __eq__ -/
section
variable {prog : Program} {w : World} {A : Around} {E : Value → Shared → Prop} {s : Shared} {K : PySem.W.Frag} {x C f : Addr} {y : Value} {ox : Obj} {od : Option Obj}
theorem entry_ne {Q : Fin → Shared → Prop} (hu : A.units < cLine) (X : K.In s.heap) (I : PySem.W.InstAt s.heap x ox C od) (hs : PySem.W.findIn K (.ref C) "__eq__" = some (some (.ref f))) (hf : PySem.W.isFn K (.ref f) = true)
    (h : wpAny (model prog w) A (call (.ref f) [.ref x, y]) (fun v s' => ∃ t, v = .bool t ∧ Q (.done (.ret (.bool (!t)))) s') E s) : wpAny (model prog w) A (Builtin.«object.__ne__» ⟨[.ref x, y], []⟩) Q E s := by
  unfold Builtin.«object.__ne__»
  repeat (first
    | with_reducible refine wpAny_cRoomFor hu ?_
    | (refine wpAny_bind (m := callSpecialIfBound? (.ref x) (Str.ofString "__eq__") [y])
        (PySem.W.ifBound_K X I hs hf (wpAny_mono h (fun r s' hr => by
          obtain ⟨b, rfl, hq⟩ := hr
          repeat (first | exact hq | exact wpAny_pure hq | exact wpAny_truthy_bool hq | (refine wpAny_bind (m := truthy (.bool _)) (wpAny_truthy_bool ?_)) | wp_step)) fun _ _ e => e)))
    | wp_step)
theorem call_objNe {Q : Value → Shared → Prop} (hu : A.in1.units < cLine) (X : K.In s.heap) (I : PySem.W.InstAt s.heap x ox C od) (hm : PySem.W.mroIn K C (.type "object") = some true) (hs : PySem.W.findIn K (.ref C) "__eq__" = some (some (.ref f))) (hf : PySem.W.isFn K (.ref f) = true)
    (h : wpAny (model prog w) A.in1 (call (.ref f) [.ref x, y]) (fun v s' => ∃ t, v = .bool t ∧ Q (.bool (!t)) s') E s) :
    wpAny (model prog w) A (call (.builtin "object.__ne__") [.ref x, y]) Q E s :=
  wpAny_call (codeAny_call_builtin F.cmp_object.ne.plain F.cmpEntry_ne (PySem.W.check_slot F.cmpKind_ne F.cmpSplit_ne (I.type.andThen (PySem.W.looks_mroIn X hm)) (F.cmpArgs_ne _ _) (entry_ne hu X I hs hf h)))
theorem ifBound_objNe {M : Model} {args : List Value} {Q : Option Value → Shared → Prop} (X : K.In s.heap) (I : PySem.W.InstAt s.heap x ox C od) (hs : PySem.W.findIn K (.ref C) "__ne__" = some (some (.builtin "object.__ne__")))
    (h : wpAny M A (call (.builtin "object.__ne__") (.ref x :: args)) (fun v => Q (some v)) E s) : wpAny M A (callSpecialIfBound? (.ref x) "__ne__" args) Q E s := by
  simp only [callSpecialIfBound?, bindSpecialIfBound?]
  refine wpAny_holding (wpAny_bind (wpAny_bind (wpAny_bind (I.type.here ((PySem.W.looks_findIn X hs).here ?_)))))
  refine wpAny_bind (wpAny_askSetting (wpAny_ite ?_))
  have fin : wpAny M A (call (.builtin "object.__ne__") ([.ref x] ++ args) >>= fun v => pure (some v)) Q E s := wpAny_bind (wpAny_mono h (fun v s' h' => wpAny_pure h') fun _ _ h' => h')
  split
  · exact wpAny_bind (wpAny_of_eq (F.cmp_object.ne.bind _) (wpAny_pure (by exact fin)))
  · exact wpAny_tryCatch (wpAny_bind (wpAny_of_eq (F.cmp_object.ne.bind _) (wpAny_pure (by exact fin))))
theorem rc_ne {Q : Value → Shared → Prop} (hu : A.units < cLine) (hu1 : A.in1.units < cLine) (X : K.In s.heap) (I : PySem.W.InstAt s.heap x ox C od) {tb : Value} (hb : PySem.W.Looks (model prog w) s.heap (typeOf y) tb) (hn : PySem.W.notFirst K C tb = true)
    (hm : PySem.W.mroIn K C (.type "object") = some true) (hne : PySem.W.findIn K (.ref C) "__ne__" = some (some (.builtin "object.__ne__"))) (hs : PySem.W.findIn K (.ref C) "__eq__" = some (some (.ref f))) (hf : PySem.W.isFn K (.ref f) = true)
    (h : wpAny (model prog w) A.in1 (call (.ref f) [.ref x, y]) (fun v s' => ∃ t, v = .bool t ∧ Q (.bool (!t)) s') E s) : wpAny (model prog w) A (richCompare .NotEq (.ref x) y) Q E s := by
  have one : wpAny (model prog w) A (tryCompare (.ref x) "__ne__" y) (fun r s' => ∃ v, r = some v ∧ Q v s') E s := by
    unfold tryCompare
    refine wpAny_bind (ifBound_objNe X I hne (call_objNe hu1 X I hm hs hf (wpAny_mono h (fun v s' hv => ?_) fun _ _ e => e)))
    obtain ⟨t, rfl, hq⟩ := hv
    exact ⟨t, rfl, wpAny_pure ⟨_, rfl, hq⟩⟩
  unfold richCompare
  simp only [oneThing_ref]
  refine wpAny_holding (wpAny_bind (wpAny_cRoomFor hu ?_))
  rw [cmpInfo_NotEq]
  dsimp only
  refine wpAny_bind (I.type.here (wpAny_bind (hb.here ?_)))
  split
  · rename_i q
    have e : PySem.W.subIn K tb (.ref C) = some false := by
      rcases Bool.or_eq_true_iff.mp hn with e | e
      · rw [beq_iff_eq.mp e] at q; simp at q
      · exact beq_iff_eq.mp e
    refine wpAny_bind ((PySem.W.looks_subIn X e).here ?_)
    simp only [Bool.false_eq_true, if_false]
    refine wpAny_bind (wpAny_mono one (fun r s' z => ?_) fun _ _ e => e)
    obtain ⟨v, rfl, hq⟩ := z
    exact wpAny_pure hq
  · refine wpAny_bind (wpAny_pure ?_)
    simp only [Bool.false_eq_true, if_false]
    refine wpAny_bind (wpAny_mono one (fun r s' z => ?_) fun _ _ e => e)
    obtain ⟨v, rfl, hq⟩ := z
    exact wpAny_pure hq
end
section
variable {X : Cx} {n : Nat} {C f : Addr} {fd : FuncData} {ps : List Str} {sp : Sp}
/-- both of the class at C -/
def rOwn (neg : Bool) (C : Addr) (sp : Sp) : R2 := fun x y H Q => ∃ a b dx dy fs gs, x = .ref a ∧ y = .ref b ∧ H a = some (.ins C dx fs) ∧ H b = some (.ins C dy gs) ∧ sp [x, y] H (fun v H' => ∃ t, v = .bl t ∧ Q (.bl (xor neg t)) H') (fun _ _ _ => False)
theorem own_call {A : Around} {pins : List (Addr × Obj)} {s : Shared} {σ : L2.St} {H : Hp} {a b : Addr} {Q : VK} (F : FnOk X.prog X.w X.K X.mg X.base CX0 n f fd ps sp) (hb : Binds X.K fd ps []) (sb : Sub X n A) (I : Inv X pins σ H s)
    (hsp : sp [.ref a, .ref b] H Q (fun _ _ _ => False)) : wpAny (model X.prog X.w) A (call (.ref f) [.ref a, .ref b]) (EP X pins σ Q) X.xe s := by
  have e0 : Env0 X.prog X.w X.K X.mg X.base A X.stack s H := by
    have e := I.env0
    exact ⟨by rw [sb.fr]; exact e.frames, e.mod, e.bs, e.bsz, e.funs, e.frf, e.hok, e.bare⟩
  have hl := F.len _ _ _ _ hsp
  have r2 : Vals [V.ref a, V.ref b] [Value.ref a, Value.ref b] := .cons rfl (.cons rfl .nil)
  refine wpAny_call (codeAny_mono (F.run A X.stack s H ⟨[.ref a, .ref b], []⟩ [.ref a, .ref b] [.ref a, .ref b] _ _ sb.room e0 (by
    have := hb s [.ref a, .ref b] I.kIn (by simpa using hl)
    simpa using this) r2 hsp) fun r s' hq => ?_)
  cases r with
  | error e => exact hq.elim
  | ok fl =>
    cases fl with
    | ret w =>
      obtain ⟨z, H', I', rz, ez⟩ := I.after hq
      exact ⟨z, H', I', rz, ez⟩
    | next => exact False.elim hq
    | brk => exact False.elim hq
    | cont => exact False.elim hq
theorem op_neOwn (F : FnOk X.prog X.w X.K X.mg X.base CX0 n f fd ps sp) (o : OwnE X.K C f) (hb : Binds X.K fd ps []) (hr : Room (n + 1) X.A) : OpR X (compareOp .NotEq) (rOwn true C sp) := by
  intro pins s σ H x y v u Q I rx ry h
  obtain ⟨a, b, dx, dy, fs, gs, rfl, rfl, ha, hb', hsp⟩ := h
  cases rx
  cases ry
  obtain ⟨mA, J, _⟩ := ins_get I.hok ha
  obtain ⟨mB, J', _⟩ := ins_get I.hok hb'
  obtain ⟨od, J, _⟩ := J.look
  obtain ⟨od', J', _⟩ := J'.look
  have sb : Sub X (n + 1) X.A := ⟨hr, rfl⟩
  show wpAny (model X.prog X.w) X.A (richCompare .NotEq (.ref a) (.ref b)) (EP X pins σ Q) X.xe s
  refine rc_ne (tb := .ref C) sb.room.units0 sb.in1.room.units0 I.kIn J J'.type (by simp [PySem.W.notFirst]) o.hm o.ne o.eq o.fn (wpAny_mono (own_call F hb sb.in1 I hsp) (fun v s' hv => ?_) fun _ _ e => e)
  obtain ⟨z, H', I', rz, t, rfl, q⟩ := hv
  cases rz
  exact ⟨t, rfl, .bl (!t), H', I', rfl, by simpa using q⟩
theorem op_eqOwn (F : FnOk X.prog X.w X.K X.mg X.base CX0 n f fd ps sp) (o : OwnE X.K C f) (hb : Binds X.K fd ps []) (hr : Room (n + 1) X.A) : OpR X (compareOp .Eq) (rOwn false C sp) := by
  intro pins s σ H x y v u Q I rx ry h
  obtain ⟨a, b, dx, dy, fs, gs, rfl, rfl, ha, hb', hsp⟩ := h
  cases rx
  cases ry
  obtain ⟨mA, J, _⟩ := ins_get I.hok ha
  obtain ⟨mB, J', _⟩ := ins_get I.hok hb'
  obtain ⟨od, J, _⟩ := J.look
  obtain ⟨od', J', _⟩ := J'.look
  obtain ⟨m, hF⟩ := I.fr
  have sb : Sub X (n + 1) X.A := ⟨hr, rfl⟩
  show wpAny (model X.prog X.w) X.A (richCompare .Eq (.ref a) (.ref b)) (EP X pins σ Q) X.xe s
  refine PySem.W.cmp_K (op := .Eq) (tb := .ref C) sb.room.units0 hF I.ok.mod.kin J J'.type (by simp [PySem.W.notFirst]) o.eq o.fn (wpAny_mono (own_call F hb (sb.mono (by omega)) I hsp) (fun v s' hv => ?_) fun _ _ e => e)
  obtain ⟨z, H', I', rz, t, rfl, q⟩ := hv
  cases rz
  exact ⟨.bl t, H', I', rfl, by simpa using q⟩
end
/-! ### beside something that is no instance -/
theorem looks_ty {X : Cx} {pins : List (Addr × Obj)} {σ : L2.St} {H : Hp} {s : Shared} {x : V} {u : Value} {T : String} (I : Inv X pins σ H s) (rx : RelV x u) (ty : TyX X.K H x (.type T)) : PySem.W.Looks (model X.prog X.w) s.heap (typeOf u) (.type T) := by
  cases ty with
  | base b =>
    cases b with
    | non => cases (show u = Value.none from rx); exact fun A Q E s' k q => wpAny_typeOf (show s'.TypeIs .none "NoneType" from rfl) q
    | bl y => cases (show u = Value.bool y from rx); exact fun A Q E s' k q => wpAny_typeOf (show s'.TypeIs (.bool y) "bool" from rfl) q
    | int i => obtain ⟨t, z⟩ := (show ∃ t, u = Value.int i t from rx); cases z; exact fun A Q E s' k q => wpAny_typeOf (show s'.TypeIs (.int i t) "int" from rfl) q
    | str y => obtain ⟨t, z⟩ := (show ∃ t, u = Value.str y t from rx); cases z; exact fun A Q E s' k q => wpAny_typeOf (show s'.TypeIs (.str y t) "str" from rfl) q
    | flt y => obtain ⟨t, z⟩ := (show ∃ t, u = Value.float y t from rx); cases z; exact fun A Q E s' k q => wpAny_typeOf (show s'.TypeIs (.float y t) "float" from rfl) q
    | @lst a xs ea =>
      cases (show u = Value.ref a from rx)
      obtain ⟨_, _, n, _, h1⟩ := (show ObjOk X.prog X.w H s.heap a (.lst xs) from I.hok a _ ea)
      exact fun A Q E s' k q => wpAny_typeOf_ref (k _ _ h1) q
    | @frz a ob xs ea =>
      cases (show u = Value.ref a from rx)
      obtain ⟨_, _, _, n, _, h1⟩ := (show ObjOk X.prog X.w H s.heap a (.frz ob (.lst xs)) from I.hok a _ ea)
      exact fun A Q E s' k q => wpAny_typeOf_ref (k _ _ h1) q
    | @tup a xs ea =>
      cases (show u = Value.ref a from rx)
      obtain ⟨_, _, _, o, h1, h2, _⟩ := (show ObjOk X.prog X.w H s.heap a (.tup xs) from I.hok a _ ea)
      exact fun A Q E s' k q => wpAny_typeOf_ref (k _ _ h1) (by rw [h2]; exact q)
    | @dK a kvs ea =>
      cases (show u = Value.ref a from rx)
      obtain ⟨_, _, vs, _, o, es, ep, h1, h2, _⟩ := (show ObjOk X.prog X.w H s.heap a (.dK kvs) from I.hok a _ ea)
      exact fun A Q E s' k q => wpAny_typeOf_ref (k _ _ h1) (by rw [h2.1]; exact q)
    | @dT a kvs ea =>
      cases (show u = Value.ref a from rx)
      obtain ⟨_, _, xs, _, o, es, ep, h1, h2, _⟩ := (show ObjOk X.prog X.w H s.heap a (.dT kvs) from I.hok a _ ea)
      exact fun A Q E s' k q => wpAny_typeOf_ref (k _ _ h1) (by rw [h2.1]; exact q)
  | byt y => obtain ⟨t, z⟩ := (show ∃ t, u = Value.bytes y t from rx); cases z; exact fun A Q E s' k q => wpAny_typeOf (show s'.TypeIs (.bytes y t) "bytes" from rfl) q
  | @set a S n ea =>
    cases (show u = Value.ref a from rx)
    obtain ⟨o, _, _, _, e, ex, _⟩ := I.hok a _ ea
    exact fun A Q E s' k q => wpAny_typeOf_ref (k _ _ e) (by rw [ex.1]; exact q)
  | @kList a o e c =>
    cases (show u = Value.ref a from rx)
    exact fun A Q E s' k q => wpAny_typeOf_ref (k _ _ (I.kIn a o e)) (by rw [c]; exact q)
  | @kTuple a o e c =>
    cases (show u = Value.ref a from rx)
    exact fun A Q E s' k q => wpAny_typeOf_ref (k _ _ (I.kIn a o e)) (by rw [c]; exact q)
  | @kDict a o e c =>
    cases (show u = Value.ref a from rx)
    exact fun A Q E s' k q => wpAny_typeOf_ref (k _ _ (I.kIn a o e)) (by rw [c]; exact q)
  | @fTuple a ob xs ea =>
    cases (show u = Value.ref a from rx)
    obtain ⟨_, _, _, _, o, h1, h2, _⟩ := (show ObjOk X.prog X.w H s.heap a (.frz ob (.tup xs)) from I.hok a _ ea)
    exact fun A Q E s' k q => wpAny_typeOf_ref (k _ _ h1) (by rw [h2]; exact q)
  | @fDict a ob kvs ea =>
    cases (show u = Value.ref a from rx)
    obtain ⟨_, _, _, vs, _, o, es, ep, h1, h2, _⟩ := (show ObjOk X.prog X.w H s.heap a (.frz ob (.dK kvs)) from I.hok a _ ea)
    exact fun A Q E s' k q => wpAny_typeOf_ref (k _ _ h1) (by rw [h2.1]; exact q)
section
variable {X : Cx} {n : Nat} {C f : Addr} {fd : FuncData} {ps : List Str} {sp : Sp}
def rOwnT (K : PySem.W.Frag) (neg : Bool) (C : Addr) (sp : Sp) : R2 := fun x y H Q => ∃ a dx fs T, x = .ref a ∧ H a = some (.ins C dx fs) ∧ T ∈ plainTys ∧ TyX K H y (.type T) ∧ sp [x, y] H (fun v H' => ∃ t, v = .bl t ∧ Q (.bl (xor neg t)) H') (fun _ _ _ => False)
theorem own_callT {A : Around} {pins : List (Addr × Obj)} {s : Shared} {σ : L2.St} {H : Hp} {a : Addr} {y : V} {u : Value} {Q : VK} (F : FnOk X.prog X.w X.K X.mg X.base CX0 n f fd ps sp) (hb : Binds X.K fd ps []) (sb : Sub X n A) (I : Inv X pins σ H s) (ry : RelV y u)
    (hsp : sp [.ref a, y] H Q (fun _ _ _ => False)) : wpAny (model X.prog X.w) A (call (.ref f) [.ref a, u]) (EP X pins σ Q) X.xe s := by
  have e0 : Env0 X.prog X.w X.K X.mg X.base A X.stack s H := by
    have e := I.env0
    exact ⟨by rw [sb.fr]; exact e.frames, e.mod, e.bs, e.bsz, e.funs, e.frf, e.hok, e.bare⟩
  have hl := F.len _ _ _ _ hsp
  have r2 : Vals [V.ref a, y] [Value.ref a, u] := .cons rfl (.cons ry .nil)
  refine wpAny_call (codeAny_mono (F.run A X.stack s H ⟨[.ref a, u], []⟩ [.ref a, u] [.ref a, y] _ _ sb.room e0 (by
    have := hb s [.ref a, u] I.kIn (by simpa using hl)
    simpa using this) r2 hsp) fun r s' hq => ?_)
  cases r with
  | error e => exact hq.elim
  | ok fl =>
    cases fl with
    | ret w =>
      obtain ⟨z, H', I', rz, ez⟩ := I.after hq
      exact ⟨z, H', I', rz, ez⟩
    | next => exact False.elim hq
    | brk => exact False.elim hq
    | cont => exact False.elim hq
theorem op_neOwnT (F : FnOk X.prog X.w X.K X.mg X.base CX0 n f fd ps sp) (o : OwnE X.K C f) (hb : Binds X.K fd ps []) (hr : Room (n + 1) X.A) : OpR X (compareOp .NotEq) (rOwnT X.K true C sp) := by
  intro pins s σ H x y v u Q I rx ry h
  obtain ⟨a, dx, fs, T, rfl, ha, hT, ty, hsp⟩ := h
  cases rx
  obtain ⟨mA, J, _⟩ := ins_get I.hok ha
  obtain ⟨od, J, _⟩ := J.look
  have sb : Sub X (n + 1) X.A := ⟨hr, rfl⟩
  show wpAny (model X.prog X.w) X.A (richCompare .NotEq (.ref a) u) (EP X pins σ Q) X.xe s
  refine rc_ne (tb := .type T) sb.room.units0 sb.in1.room.units0 I.kIn J (looks_ty I ry ty) (o.oth T hT).2 o.hm o.ne o.eq o.fn (wpAny_mono (own_callT F hb sb.in1 I ry hsp) (fun v s' hv => ?_) fun _ _ e => e)
  obtain ⟨z, H', I', rz, t, rfl, q⟩ := hv
  cases rz
  exact ⟨t, rfl, .bl (!t), H', I', rfl, by simpa using q⟩
theorem op_eqOwnT (F : FnOk X.prog X.w X.K X.mg X.base CX0 n f fd ps sp) (o : OwnE X.K C f) (hb : Binds X.K fd ps []) (hr : Room (n + 1) X.A) : OpR X (compareOp .Eq) (rOwnT X.K false C sp) := by
  intro pins s σ H x y v u Q I rx ry h
  obtain ⟨a, dx, fs, T, rfl, ha, hT, ty, hsp⟩ := h
  cases rx
  obtain ⟨mA, J, _⟩ := ins_get I.hok ha
  obtain ⟨od, J, _⟩ := J.look
  obtain ⟨m, hF⟩ := I.fr
  have sb : Sub X (n + 1) X.A := ⟨hr, rfl⟩
  show wpAny (model X.prog X.w) X.A (richCompare .Eq (.ref a) u) (EP X pins σ Q) X.xe s
  refine PySem.W.cmp_K (op := .Eq) (tb := .type T) sb.room.units0 hF I.ok.mod.kin J (looks_ty I ry ty) (o.oth T hT).2 o.eq o.fn (wpAny_mono (own_callT F hb (sb.mono (by omega)) I ry hsp) (fun v s' hv => ?_) fun _ _ e => e)
  obtain ⟨z, H', I', rz, t, rfl, q⟩ := hv
  cases rz
  exact ⟨.bl t, H', I', rfl, by simpa using q⟩
end
/-! ### over the store -/
/-- == (neg false) or != of two objects of the class c by its own ==, else by what they hold -/
def vOwn (neg : Bool) (c : Nat) (mf : List Vl → Sto → Out Vl) (g : Vl → Vl → Sto → Out Vl) (x y : Vl) (S : Sto) : Out Vl := match x, y with
  | .ref i, .ref j => match S[i]?, S[j]? with
    | some (.ins c1 _), some (.ins c2 _) => if c1 = c ∧ c2 = c then (match mf [.ref i, .ref j] S with
      | .ok (.bl t) S' => .ok (.bl (xor neg t)) S'
      | _ => .bad) else .bad
    | _, _ => g x y S
  | _, _ => g x y S
/-- the same, where the second one may be of a plain type -/
def vOwnT (neg : Bool) (c : Nat) (mf : List Vl → Sto → Out Vl) (g : Vl → Vl → Sto → Out Vl) (x y : Vl) (S : Sto) : Out Vl := match x, tyV' S y with
  | .ref i, some _ => match S[i]? with
    | some (.ins c1 _) => if c1 = c then (match mf [.ref i, y] S with
      | .ok (.bl t) S' => .ok (.bl (xor neg t)) S'
      | _ => .bad) else .bad
    | _ => g x y S
  | _, _ => g x y S
theorem ops_ownT {N : Nms} {K : PySem.W.Frag} {neg : Bool} {c : Nat} {np : Nat} {mf : List Vl → Sto → Out Vl} {r : R2} {g : Vl → Vl → Sto → Out Vl} (hnp : np = 2) (hg : OpS N K r g) : OpS N K (rOr (rOwnT K neg (He.ga K (N.g c)) (spM N K np mf)) r) (vOwnT neg c mf g) := by
  intro m S H x y u w Q E s rx ry h
  unfold vOwnT at h
  split at h
  · rename_i i T hT
    split at h
    · rename_i c1 f1 h1
      split at h
      · rename_i hc
        subst hc
        have rx' := rx
        obtain ⟨a, rfl, hm⟩ := rx.ref'
        obtain ⟨u1, e1, o1⟩ := s.at_ hm h1
        cases o1
        obtain ⟨ty, hin⟩ := tyV_ok s ry hT
        refine .inl ⟨a, _, _, T, rfl, e1, hin, ty, m, S, [.ref i, y], by rw [hnp]; rfl, s, .cons rx' (.cons ry .nil), ?_⟩
        split at h
        · rename_i t S' e
          rw [e]
          intro m' H' v e' s' r'
          cases r'
          exact ⟨t, rfl, h.to e' s' (.bl _)⟩
        · exact h.elim
      · exact h.elim
    · exact .inr (hg m S H _ _ u w Q E s rx ry h)
  · exact .inr (hg m S H _ _ u w Q E s rx ry h)
theorem ops_own {N : Nms} {K : PySem.W.Frag} {neg : Bool} {c : Nat} {np : Nat} {mf : List Vl → Sto → Out Vl} {r : R2} {g : Vl → Vl → Sto → Out Vl} (hnp : np = 2) (hg : OpS N K r g) : OpS N K (rOr (rOwn neg (He.ga K (N.g c)) (spM N K np mf)) r) (vOwn neg c mf g) := by
  intro m S H x y u w Q E s rx ry h
  unfold vOwn at h
  split at h
  · rename_i i j
    split at h
    · rename_i c1 f1 c2 f2 h1 h2
      split at h
      · rename_i hc
        obtain ⟨rfl, rfl⟩ := hc
        have rx' := rx
        have ry' := ry
        obtain ⟨a, rfl, hm⟩ := rx.ref'
        obtain ⟨b, rfl, hm'⟩ := ry.ref'
        obtain ⟨u1, e1, o1⟩ := s.at_ hm h1
        obtain ⟨u2, e2, o2⟩ := s.at_ hm' h2
        cases o1
        cases o2
        refine .inl ⟨a, b, _, _, _, _, rfl, rfl, e1, e2, m, S, [.ref i, .ref j], by rw [hnp]; rfl, s, .cons rx' (.cons ry' .nil), ?_⟩
        split at h
        · rename_i t S' e
          rw [e]
          intro m' H' v e' s' r'
          cases r'
          exact ⟨t, rfl, h.to e' s' (.bl _)⟩
        · exact h.elim
      · exact h.elim
    · exact .inr (hg m S H _ _ u w Q E s rx ry h)
  · exact .inr (hg m S H _ _ u w Q E s rx ry h)
section
variable {N : Nms} {X : Cx} {n c : Nat} {f : Addr} {T : FuncData → Prop} {ps : List Str} {mf : List Vl → Sto → Out Vl} {g : Vl → Vl → Sto → Out Vl} {gL : List Vl → List Vl → List Vl}
theorem opm_neOwn (D : FnM N X.prog X.w X.K X.mg X.base CX0 n f T ps mf) (o : OwnE X.K (He.ga X.K (N.g c)) f) (hp : ps.length = 2) (hbn : ∀ fd, T fd → Binds X.K fd ps []) (hr : Room (n + 1) X.A) (hg : OpM N X (compareOp .NotEq) g) : OpM N X (compareOp .NotEq) (vOwn true c mf g) := by
  obtain ⟨fd, hT, _, F⟩ := D.ex
  obtain ⟨r, h1, h2⟩ := hg.ex
  exact ⟨_, (op_neOwn F o (hbn fd hT) hr).or h1, ops_own hp h2⟩
theorem opm_neOwnT (D : FnM N X.prog X.w X.K X.mg X.base CX0 n f T ps mf) (o : OwnE X.K (He.ga X.K (N.g c)) f) (hp : ps.length = 2) (hbn : ∀ fd, T fd → Binds X.K fd ps []) (hr : Room (n + 1) X.A) (hg : OpM N X (compareOp .NotEq) g) : OpM N X (compareOp .NotEq) (vOwnT true c mf g) := by
  obtain ⟨fd, hT, _, F⟩ := D.ex
  obtain ⟨r, h1, h2⟩ := hg.ex
  exact ⟨_, (op_neOwnT F o (hbn fd hT) hr).or h1, ops_ownT hp h2⟩
theorem opm_eqOwnT (D : FnM N X.prog X.w X.K X.mg X.base CX0 n f T ps mf) (o : OwnE X.K (He.ga X.K (N.g c)) f) (hp : ps.length = 2) (hbn : ∀ fd, T fd → Binds X.K fd ps []) (hr : Room (n + 1) X.A) (hg : OpM N X (compareOp .Eq) g) : OpM N X (compareOp .Eq) (vOwnT false c mf g) := by
  obtain ⟨fd, hT, _, F⟩ := D.ex
  obtain ⟨r, h1, h2⟩ := hg.ex
  exact ⟨_, (op_eqOwnT F o (hbn fd hT) hr).or h1, ops_ownT hp h2⟩
theorem opm_eqOwn (D : FnM N X.prog X.w X.K X.mg X.base CX0 n f T ps mf) (o : OwnE X.K (He.ga X.K (N.g c)) f) (hp : ps.length = 2) (hbn : ∀ fd, T fd → Binds X.K fd ps []) (hr : Room (n + 1) X.A) (hg : OpM N X (compareOp .Eq) g) : OpM N X (compareOp .Eq) (vOwn false c mf g) := by
  obtain ⟨fd, hT, _, F⟩ := D.ex
  obtain ⟨r, h1, h2⟩ := hg.ex
  exact ⟨_, (op_eqOwn F o (hbn fd hT) hr).or h1, ops_own hp h2⟩
end
/-! ### isinstance with an own class -/
/-- isinstance(x, C), x of the class C -/
def vIsO (c : Nat) (vs : List Vl) (S : Sto) : Out Vl := match vs with
  | [.ref i, .fn k] => match S[i]? with
    | some (.ins c1 _) => if c1 = c ∧ k = c then .ok (.bl true) S else .bad
    | _ => .bad
  | _ => .bad
/-- the same, where it may be of a plain type -/
def vIsOT (c : Nat) (vs : List Vl) (S : Sto) : Out Vl := match vs with
  | [x, .fn k] => match tyV' S x with
    | some _ => if k = c then .ok (.bl false) S else .bad
    | none => vIsO c vs S
  | _ => .bad
theorem cm_isO {N : Nms} {X : Cx} {c : Nat} {f : Addr} (cl : Cls X.K (He.ga X.K (N.g c))) (o : OwnE X.K (He.ga X.K (N.g c)) f) : CallM N X (.builtin "isinstance") (vIsO c) := by
  refine ⟨_, call_isi, fun m S H xs us Q E s r h => ?_⟩
  unfold vIsO at h
  split at h
  · rename_i i k
    obtain ⟨u, w, rfl, ru, rw'⟩ := r.two
    cases rw'
    obtain ⟨a, rfl, hm⟩ := ru.ref'
    split at h
    · rename_i c1 f1 h1
      split at h
      · rename_i hc
        obtain ⟨rfl, rfl⟩ := hc
        obtain ⟨u1, e1, o1⟩ := s.at_ hm h1
        cases o1
        exact ⟨.ref a, .ref _, .ref _, .ref _, true, rfl, .own _, .base (.ins e1 cl o.ha o.hn o.htk o.hm), o.self, h.ok s (.bl _)⟩
      · exact h.elim
    · exact h.elim
  · exact h.elim
theorem cm_isOT {N : Nms} {X : Cx} {c : Nat} {f : Addr} (cl : Cls X.K (He.ga X.K (N.g c))) (o : OwnE X.K (He.ga X.K (N.g c)) f) : CallM N X (.builtin "isinstance") (vIsOT c) := by
  obtain ⟨r, h1, h2⟩ := (cm_isO (N := N) cl o).ex
  refine ⟨_, call_isi.or h1, fun m S H xs us Q E s r h => ?_⟩
  unfold vIsOT at h
  split at h
  · rename_i x k
    split at h
    · rename_i T hT
      split at h
      · rename_i hk
        subst hk
        obtain ⟨u, w, rfl, ru, rw'⟩ := r.two
        cases rw'
        obtain ⟨ty, hin⟩ := tyV_ok s ru hT
        exact .inl ⟨u, .ref _, .type T, .ref _, false, rfl, .own _, ty, (o.oth T hin).1, h.ok s (.bl _)⟩
      · exact h.elim
    · exact .inr (h2 m S H _ us Q E s r h)
  · exact h.elim
/-! ### a list times a number -/
theorem Vrs.rep {N : Nms} {K : PySem.W.Frag} {m : List Addr} {H : Hp} {xs : List Vl} {us : List V} (r : Vrs N K m H xs us) : ∀ k : Nat, Vrs N K m H (List.replicate k xs).flatten (List.replicate k us).flatten
  | 0 => .nil
  | k + 1 => by
    rw [List.replicate_succ, List.replicate_succ, List.flatten_cons, List.flatten_cons]
    exact r.append (Vrs.rep r k)
def vMulL (x y : Vl) (S : Sto) : Out Vl := match x, y with
  | .ref i, .int k => match S[i]? with
    | some (.lst xs) => if (-4611686018427387904 ≤ k ∧ k < 4611686018427387904) ∧ xs.length * k.toNat ≤ 100000 then .ok (.ref S.length) (S ++ [.lst (List.replicate k.toNat xs).flatten]) else .bad
    | _ => .bad
  | _, _ => .bad
theorem opm_mulL {N : Nms} {X : Cx} : OpM N X (binaryOp .Mult) vMulL := by
  refine ⟨_, op_rep, fun m S H x y u w Q E s rx ry h => ?_⟩
  unfold vMulL at h
  split at h
  · rename_i i k
    cases ry
    obtain ⟨a, rfl, hm⟩ := rx.ref'
    split at h
    · rename_i xs hS
      split at h
      · rename_i q
        obtain ⟨ys, h1, h2⟩ := s.lst hm hS
        exact ⟨a, k, ys, rfl, rfl, h1, by omega, by omega, sz_of (by rw [← h2.len]; exact q.2), fun p hp => h.to (Ext.app (Same.new hp)) (s.new (Same.new hp) hp upd_same (.lst (h2.rep _))) s.ref_new⟩
      · exact h.elim
    · exact h.elim
  · exact h.elim
end Nt

namespace Nt
open PySem PySem.Spec PyProof.Rows L2 Evl
/-! ### other names for the same -/
section
variable {N N' : Nms} {K : PySem.W.Frag} {m : List Addr} {H : Hp}
mutual
theorem Vr.nm (hg : ∀ k, N.g k = N'.g k) : ∀ {x : Vl} {u : V}, Vr N K m H x u → Vr N' K m H x u
  | _, _, .non => .non
  | _, _, .bl b => .bl b
  | _, _, .int b => .int b
  | _, _, .str b => .str b
  | _, _, .ty b => .ty b
  | _, _, .tup h r => .tup h (Vrs.nm hg r)
  | _, _, .ktp h r => .ktp h (Vrs.nm hg r)
  | _, _, .ref h => .ref h
  | _, _, .fn k => by rw [hg k]; exact .fn k
  | _, _, .scr h => .scr h
theorem Vrs.nm (hg : ∀ k, N.g k = N'.g k) : ∀ {x : List Vl} {u : List V}, Vrs N K m H x u → Vrs N' K m H x u
  | _, _, .nil => .nil
  | _, _, .cons h r => .cons (Vr.nm hg h) (Vrs.nm hg r)
end
theorem KR.nm {κ : Type} (hg : ∀ k, N.g k = N'.g k) : ∀ {x : List (κ × Vl)} {u : List (κ × V)}, KR N K m H x u → KR N' K m H x u
  | _, _, .nil => .nil
  | _, _, .cons h r => .cons (h.nm hg) (KR.nm hg r)
theorem FR.nm (hg : ∀ k, N.g k = N'.g k) (hf : ∀ k, N.f k = N'.f k) : ∀ {x : List (Nat × Vl)} {u : List (Str × V)}, FR N K m H x u → FR N' K m H x u
  | _, _, .nil => .nil
  | _, _, .cons (k := k) h r => by rw [hf k]; exact .cons (h.nm hg) (FR.nm hg hf r)
theorem ObR.nm (hg : ∀ k, N.g k = N'.g k) (hf : ∀ k, N.f k = N'.f k) {o : Ob} {u : HO} : ObR N K m H o u → ObR N' K m H o u
  | .lst h => .lst (h.nm hg)
  | .dk h => .dk (h.nm hg)
  | .dt h => .dt (h.nm hg)
  | .ins (c := c) h => by rw [hg c]; exact .ins (h.nm hg hf)
  | .xd h => .xd (h.nm hg hf)
  | .fz h => .fz (h.nm hg)
theorem SR.nm {S : Sto} (hg : ∀ k, N.g k = N'.g k) (hf : ∀ k, N.f k = N'.f k) (s : SR N K m S H) : SR N' K m S H := ⟨s.len, s.inj, fun i o h => by
  obtain ⟨a, u, h1, h2, h3⟩ := s.ob i o h
  exact ⟨a, u, h1, h2, h3.nm hg hf⟩⟩
theorem Post.nm {Q : VK} {E : XK} {o : Out Vl} (hg : ∀ k, N.g k = N'.g k) (hf : ∀ k, N.f k = N'.f k) (h : Post N K (Vr N K) m H Q E o) : Post N' K (Vr N' K) m H Q E o := by
  cases o with
  | ok v S => exact fun m' H' u e s r => h m' H' u e (s.nm (fun k => (hg k).symm) fun k => (hf k).symm) (r.nm fun k => (hg k).symm)
  | err c x S => exact fun m' H' d e s xd => by rw [← hg c]; exact h m' H' d e (s.nm (fun k => (hg k).symm) fun k => (hf k).symm) xd
  | bad => exact h
end
section
variable {N : Nms} {K : PySem.W.Frag} {m : List Addr} {H : Hp} {i : Nat} {a : Addr} {x : Vl} {u : V} {xs : List Vl} {us : List V} {S : Sto}
theorem Vr.toH (h : Vr N K m H x u) : Vr (N.hld i a) K m H x u := Vr.nm (N := N) (N' := N.hld i a) (fun _ => rfl) h
theorem Vr.ofH (h : Vr (N.hld i a) K m H x u) : Vr N K m H x u := Vr.nm (N := N.hld i a) (N' := N) (fun _ => rfl) h
theorem Vrs.ofH (h : Vrs (N.hld i a) K m H xs us) : Vrs N K m H xs us := Vrs.nm (N := N.hld i a) (N' := N) (fun _ => rfl) h
theorem SR.toH (h : SR N K m S H) : SR (N.hld i a) K m S H := SR.nm (N := N) (N' := N.hld i a) (fun _ => rfl) (fun _ => rfl) h
theorem SR.ofH (h : SR (N.hld i a) K m S H) : SR N K m S H := SR.nm (N := N.hld i a) (N' := N) (fun _ => rfl) (fun _ => rfl) h
theorem Post.ofH {Q : VK} {E : XK} {o : Out Vl} (h : Post (N.hld i a) K (Vr (N.hld i a) K) m H Q E o) : Post N K (Vr N K) m H Q E o := Post.nm (N := N.hld i a) (N' := N) (fun _ => rfl) (fun _ => rfl) h
end
/-- a def's promise under the names of a suite -/
theorem FnM.hld {N : Nms} {P : Program} {w : World} {K : PySem.W.Frag} {mg : Str → Option Value} {base : Heap} {CX : CXT} {k i : Nat} {a f : Addr} {T : FuncData → Prop} {ps : List Str} {mf : List Vl → Sto → Out Vl} (D : FnM N P w K mg base CX k f T ps mf) : FnM (N.hld i a) P w K mg base CX k f T ps mf := by
  obtain ⟨fd, h1, h2, h3⟩ := D.ex
  refine ⟨fd, h1, h2, h3.imp fun vs H Q E ⟨m, S, args, q1, q2, q3, q4⟩ => ⟨m, S, args, q1, q2.ofH, q3.ofH, q4.ofH⟩⟩
section
variable {N : Nms} {K : PySem.W.Frag} {m : List Addr} {H : Hp} {env : En} {σ : L2.St} {i : Nat} {a : Addr}
theorem EnR.suite (h : EnR N K m H env σ) (hi : i < env.length) : EnR (N.hld i a) K m H (env.set i Option.none) (σ.set i (some (.ref a))) := by
  refine ⟨by rw [List.length_set, List.length_set]; exact h.len, fun j w q => ?_, fun j b e => ?_, fun i' a' j d e q => nomatch q⟩
  · rw [List.getElem?_set] at q
    rw [List.getElem?_set]
    split at q
    · first | cases q | (split at q <;> cases q)
    · rename_i z
      rw [if_neg z]
      obtain ⟨u, h1, h2⟩ := h.at_ j w q
      exact ⟨u, h1, h2.toH⟩
  · cases e
    rw [List.getElem?_set, if_pos rfl, if_pos (by rw [← h.len]; exact hi)]
theorem EnR.out (h0 : N.xh = Option.none) (h : EnR (N.hld i a) K m H env σ) : EnR N K m H (env.set i Option.none) (σ.set i Option.none) := by
  refine ⟨by rw [List.length_set, List.length_set]; exact h.len, fun j w q => ?_, fun j b e => (by rw [h0] at e; cases e), fun j b j2 d e => (by rw [h0] at e; cases e)⟩
  rw [List.getElem?_set] at q
  rw [List.getElem?_set]
  split at q
  · split at q <;> cases q
  · rename_i z
    rw [if_neg z]
    obtain ⟨u, h1, h2⟩ := h.at_ j w q
    exact ⟨u, h1, h2.ofH⟩
end
/-! ### try .. except C as e -/
def cSs (N : Nms) (K : PySem.W.Frag) (W : L2.St → XK) (f : ZS) : TS := fun D σ H => ∃ m S env, SR N K m S H ∧ EnR N K m H env σ ∧ PostS N K m H D W (f env S)
theorem SSs.pss {N : Nms} {X : Cx} {W : L2.St → XK} {st : List Stmt} {f : ZS} (h : SSs N X W st f) : PSs X st (cSs N X.K W f) := by
  obtain ⟨t, p, sm⟩ := h.ex
  exact ⟨fun pins s σ H D I ⟨m, S, env, s1, er, hp⟩ => p.run pins s σ H D I (sm m S H env σ D s1 er hp)⟩
def outS (i : Nat) (o : Out Fl) : Out Fl := match o with
  | .ok (.nx e) S => .ok (.nx (e.set i none)) S
  | .ok (.rt v) S => .ok (.rt v) S
  | _ => .bad
def catchZ (i : Nat) (mt : Nat → Option Bool) (fs : Nat → ZS) (o : Out Fl) : Out Fl := match o with
  | .ok (.er c x e) S => match mt c, x with
    | some true, none => if i < e.length then outS i (fs c (e.set i none) S) else .bad
    | some false, _ => .ok (.er c x e) S
    | _, _ => .bad
  | o => o
def zTryAs (i : Nat) (mt : Nat → Option Bool) (fb : ZS) (fs : Nat → ZS) : ZS := fun env S => catchZ i mt fs (fb env S)
section
variable {N : Nms} {X : Cx} {W : L2.St → XK} {x n : Str} {C : Addr} {i : Nat} {body suite : List Stmt} {b₀ : Stmt} {np pos pos' : Pos} {mt : Nat → Option Bool} {fb : ZS} {fs : Nat → ZS}
theorem ss_tryAs (hs : X.stack = X.env :: X.outer) (hf : X.env.frame = some X.env.locals) (hN : X.N.Nodup) (hi : X.N[i]? = some n) (hln : X.env.kindOf n = some .local) (hc : Names X x (.ref C)) (tk : L2N.Takes X (fun cls d σ H => W σ cls d H))
    (hm : ∀ c b, mt c = some b → PySem.W.exmOne X.K (.ref (He.ga X.K (N.g c))) (.ref C) = some b)
    (hb : ∀ (W' : WX) (pn : List (Addr × Obj)) (xe : Value → Shared → Prop), L2N.Takes (X.tr pn xe) W' → PassesOwn (model X.prog X.w) X.A X.env xe → SSs N (X.tr pn xe) (fun σ cls d H => W' cls d σ H) body fb)
    (hsu : ∀ c, mt c = some true → ∀ (a : Addr) (oe : Obj) (pn : List (Addr × Obj)), L2N.Zn (.ref (He.ga X.K (N.g c))) none oe → (∃ vs, oe.data = .fields vs) → SSs (N.hld i a) (X.suite a ((a, oe) :: pn)) (fun _ => E0) (b₀ :: suite) (fs c)) (h0 : N.xh = none := by rfl) :
    SS N X W (.Try body [.ExceptHandler (some (.Name x np)) (some n) (b₀ :: suite) pos'] [] [] pos) (zTryAs i mt fb fs) := by
  refine ⟨_, L2N.ps_try_as (tb := fun W' => cSs N X.K (fun σ cls d H => W' cls d σ H) fb) (ts := fun a cls d D σ H => ∃ c m S env, mt c = some true ∧ cls = .ref (He.ga X.K (N.g c)) ∧ d = none ∧ SR (N.hld i a) X.K m S H ∧ EnR (N.hld i a) X.K m H env σ ∧ PostS (N.hld i a) X.K m H D (fun _ => E0) (fs c env S)) hs hf hN hi hln hc tk (fun W' pn xe h1 h2 => (hb W' pn xe h1 h2).pss) (fun a oe cls d pn hz hv => ⟨fun pins s σ H D I ⟨c, m, S, env, h1, h2, h3, h4, h5, h6⟩ => ?_⟩), fun m S H env σ D s er h => ⟨m, S, env, s, er, ?_⟩⟩
  · subst h2
    subst h3
    obtain ⟨t, p, sm⟩ := (hsu c h1 a oe pn hz hv).ex
    exact p.run pins s σ H D I (sm m S H env σ D h4 h5 h6)
  · have h : PostS N X.K m H D W (catchZ i mt fs (fb env S)) := h
    cases ho : fb env S with
    | bad => rw [ho] at h; exact h
    | err c x S1 => rw [ho] at h; exact h
    | ok fl S1 =>
      rw [ho] at h
      cases fl with
      | nx e => exact h
      | rt v => exact h
      | bk e => exact h
      | ct e => exact h
      | er c x e =>
        intro m' H' d σ' e' s' er' xd
        unfold catchZ at h
        dsimp only at h
        split at h
        · rename_i hmt
          split at h
          · rename_i hlt
            refine ⟨true, hm c true hmt, fun _ a ha => ?_, fun z => (by cases z)⟩
            have hd : d = none := by cases d with
              | none => rfl
              | some b => exact xd.elim
            refine ⟨c, m', S1, e.set i none, hmt, rfl, hd, s'.toH, er'.suite hlt, ?_⟩
            cases hr : fs c (e.set i none) S1 with
            | bad => rw [hr] at h; exact h
            | err c2 x2 S2 => rw [hr] at h; exact h.elim
            | ok fl S2 =>
              rw [hr] at h
              cases fl with
              | nx e2 => exact fun m2 H2 σ2 e3 s3 er3 => h m2 H2 (σ2.set i none) (e'.trans e3) s3.ofH (er3.out h0)
              | rt v => exact fun m2 H2 u e3 s3 r3 => h m2 H2 u (e'.trans e3) s3.ofH r3.ofH
              | bk e2 => exact h.elim
              | ct e2 => exact h.elim
              | er c2 x2 e2 => exact h.elim
          · exact h.elim
        · rename_i hmt
          exact ⟨false, hm c false hmt, fun z => (by cases z), fun _ => h m' H' d σ' e' s' er' xd⟩
        · exact h.elim
end
/-! ### isinstance of the caught exception -/
def xIsE (ans : Vl → Option Bool) (f2 : XE') : XE' := fun env S => (f2 env S).bind fun v S1 => match ans v with
  | some b => .ok (.bl b) S1
  | none => .bad
def AnsOk (N : Nms) (K : PySem.W.Frag) (D : Addr) (v : Vl) (b : Bool) : Prop := (∃ k, v = .fn k ∧ PySem.W.kitOne K (.ref D) (.ref (He.ga K (N.g k))) = some b) ∨ (∃ t, v = .ty t ∧ PySem.W.kitOne K (.ref D) (.type t) = some b) ∨
  ∃ ks : List Nat, v = .tup (ks.map .fn) ∧ PySem.W.kitAny K (.ref D) (ks.map fun k => .ref (He.ga K (N.g k))) = some b
theorem fns_pair {N : Nms} {K : PySem.W.Frag} {m : List Addr} {H : Hp} : ∀ {ks : List Nat} {us : List V}, Vrs N K m H (ks.map .fn) us → Paired ClsV us (ks.map fun k => Value.ref (He.ga K (N.g k)))
  | [], _, .nil => .nil
  | k :: ks, _, .cons h r => by
    cases h
    exact .cons (.own _) (fns_pair r)
theorem se_isE {N : Nms} {X : Cx} {W : L2.St → XK} {a : Addr} {oe : Obj} {pn : List (Addr × Obj)} {c i : Nat} {n : Str} {e2 : Expr} {f2 : XE'} {ans : Vl → Option Bool} {p p' pos : Pos} (hE : ExcC X.K (He.ga X.K (N.g c))) (hz : Zc (.ref (He.ga X.K (N.g c))) none oe) (hv : ∃ vs, oe.data = .fields vs)
    (hi : X.N[i]? = some n) (hvis : Vis X.env.scope n) (hg : Gl X "isinstance") (hm : X.mg "isinstance" = none) (h2 : SE (N.hld i a) (X.suite a ((a, oe) :: pn)) W e2 f2) (hans : ∀ v b, ans v = some b → AnsOk N X.K (He.ga X.K (N.g c)) v b)
    (hd : (n == ("__debug__" : Str)) = false := by decide) (hcd : (n == ("__classdict__" : Str)) = false := by decide)
    (he1 : starEach (.Name n p' :: [e2]) (X.suite a ((a, oe) :: pn)).env = (false, eval (.Name n p') (X.suite a ((a, oe) :: pn)).env) :: starEach [e2] (X.suite a ((a, oe) :: pn)).env := by rfl)
    (he2 : starEach (e2 :: []) (X.suite a ((a, oe) :: pn)).env = (false, eval e2 (X.suite a ((a, oe) :: pn)).env) :: starEach [] (X.suite a ((a, oe) :: pn)).env := by rfl)
    (hpl : (backTo pos (starEach [e2] (X.suite a ((a, oe) :: pn)).env)).any (·.1) = false := by rfl) : SE (N.hld i a) (X.suite a ((a, oe) :: pn)) W (.Call (.Name "isinstance" p) [.Name n p', e2] [] pos) (xIsE ans f2) := by
  obtain ⟨t2, p2, s2⟩ := h2.ex
  refine ⟨_, pe_callB ((call_isE hE hz hv).or (call_isET hE hz hv)) hg hm rfl (pa_cons (pe_var hi hvis hd hcd) (pa_cons p2 pa_nil he2) he1) (by decide) (by decide) he1 hpl, fun m S H env σ Q s er h => ⟨.ref a, er.hd i a rfl, s2.step s er h fun y S1 m1 H1 u e1 sr1 r1 er1 k1 => ?_⟩⟩
  show _ ∨ _
  split at k1
  · rename_i b hb
    rcases hans y b hb with ⟨k, rfl, hk⟩ | ⟨t, rfl, ht⟩ | ⟨ks, rfl, hk⟩
    · cases r1
      exact .inl ⟨_, _, b, rfl, fun u ru => by cases ru; rfl, hk, k1.ok sr1 (.bl b)⟩
    · cases r1
      exact .inl ⟨_, _, b, rfl, fun u ru => by cases ru; rfl, ht, k1.ok sr1 (.bl b)⟩
    · obtain ⟨tp, ys, rfl, h1, h3⟩ := r1.tup'
      exact .inr ⟨tp, ys, _, b, rfl, h1, fns_pair h3, hk, k1.ok sr1 (.bl b)⟩
  · exact k1.elim
/-! ### how often, where first: lists of truths -/
def rCount (K : PySem.W.Frag) : V → List V → Hp → VK → Prop := fun x xs H Q => ∃ (a : Addr) (ys : List V) (y : V), x = V.ref a ∧ xs = [y] ∧ SqL K H a ys ∧ flatV y = true ∧ ys.all flatV = true ∧ Q (.int ((ys.countP fun z => eqV z y : Nat) : Int)) H
theorem countU {y : V} : ∀ {ys : List V} {its : List Value}, Vals ys its → ys.all flatV = true → its.countP (eqU y) = ys.countP fun z => eqV z y
  | _, _, .nil, _ => rfl
  | _, _, .cons r rs, h => by
    rw [List.all_cons, Bool.and_eq_true] at h
    rw [List.countP_cons, List.countP_cons, countU rs h.2, eqU_of r h.1]
theorem mt_count {X : Cx} : MtR X "list.count" (rCount X.K) := by
  intro pins s σ H x xs v us Q I rx rxs h
  obtain ⟨a, ys, y, rfl, rfl, hs, fy, fys, q⟩ := h
  cases rx
  cases rxs with
  | cons ry rt =>
    rename_i uy ut
    cases rt
    obtain ⟨its, rv, ⟨⟨cls, dd, data, sl⟩, n, ho, hc, hdn, hd⟩, hlen⟩ := I.list hs
    simp only at hc hd
    subst hc hd
    refine call_meets PySem.F.slot_list_count ⟨_, ho, rfl⟩ PySem.F.entry_list_count (PySem.F.args_list_count_2 _ _) (SeqAt.list_countAt a its.toArray n dd sl uy (eqU y)) ⟨ho, fun u' hu' => mem_eqAt ry fy rv fys u' (by simpa using hu'), ?_⟩
    rw [show its.toArray.toList = its from rfl, countU rv fys]
    exact ⟨.int _, H, I.tok _, ⟨_, rfl⟩, q⟩
def tbl (bs : List Bool) : List Vl := bs.map .bl
def mCount (x : Vl) (xs : List Vl) (S : Sto) : Out Vl := match x, xs with
  | .ref i, [.bl b] => match S[i]? with
    | some (.lst l) => match toBools l with
      | some bs => .ok (.int ((bs.countP fun z => z == b : Nat) : Int)) S
      | none => .bad
    | _ => .bad
  | _, _ => .bad
theorem bools_vr {N : Nms} {K : PySem.W.Frag} {m : List Addr} {H : Hp} : ∀ {l : List Vl} {bs : List Bool} {us : List V}, toBools l = some bs → Vrs N K m H l us → us = bs.map .bl
  | [], _, _, e, .nil => by cases e; rfl
  | .bl b :: l, _, _, e, .cons h r => by
    cases h
    cases q : toBools l with
    | none => rw [toBools, q] at e; cases e
    | some bs =>
      rw [toBools, q] at e
      cases e
      rw [bools_vr q r]; rfl
theorem flat_bools : ∀ {bs : List Bool}, (bs.map V.bl).all flatV = true
  | [] => rfl
  | b :: bs => by rw [List.map_cons, List.all_cons, flat_bools]; rfl
theorem eqV_bl {a b : Bool} : eqV (.bl a) (.bl b) = (a == b) := by cases a <;> cases b <;> rfl
theorem count_bools {b : Bool} : ∀ {bs : List Bool}, ((bs.map V.bl).countP fun z => eqV z (.bl b)) = bs.countP fun z => z == b
  | [] => rfl
  | c :: bs => by rw [List.map_cons, List.countP_cons, List.countP_cons, count_bools, eqV_bl]
theorem mm_count {N : Nms} {X : Cx} : MtMM N X "list.count" mCount := by
  refine ⟨_, mt_count, fun m S H x xs u us Q E s rx rs h => ?_⟩
  unfold mCount at h
  split at h
  · obtain ⟨a, rfl, hm⟩ := rx.ref'
    obtain ⟨w, rfl, rw'⟩ := rs.one
    cases rw'
    split at h
    · rename_i l hS
      split at h
      · rename_i bs hb
        obtain ⟨ys, h1, h2⟩ := s.lst hm hS
        have e := bools_vr hb h2
        subst e
        refine ⟨a, _, _, rfl, rfl, .inl (.inl h1), rfl, flat_bools, ?_⟩
        rw [count_bools]
        exact h.ok s (.int _)
      · exact h.elim
    · exact h.elim
  · exact h.elim
def firstB (b : Bool) : List Bool → Option Nat
  | [] => none
  | c :: bs => if c = b then some 0 else (firstB b bs).map (· + 1)
theorem firstB_ok {b : Bool} : ∀ {bs : List Bool} {j : Nat}, firstB b bs = some j → (bs.map V.bl)[j]? = some (.bl b) ∧ ∀ (m : Nat) (z : V), m < j → (bs.map V.bl)[m]? = some z → eqV z (.bl b) = false
  | c :: bs, j, h => by
    rw [firstB] at h
    split at h
    · rename_i e
      cases h
      rw [e]
      exact ⟨rfl, fun m z hm => absurd hm (Nat.not_lt_zero _)⟩
    · rename_i e
      cases q : firstB b bs with
      | none => rw [q] at h; cases h
      | some k =>
        rw [q] at h
        cases h
        obtain ⟨h1, h2⟩ := firstB_ok q
        refine ⟨h1, fun m z hm hz => ?_⟩
        cases m with
        | zero => cases hz; rw [eqV_bl]; cases c <;> cases b <;> first | rfl | exact absurd rfl e
        | succ m => exact h2 m z (Nat.lt_of_succ_lt_succ hm) hz
def mIndex (x : Vl) (xs : List Vl) (S : Sto) : Out Vl := match x, xs with
  | .ref i, [.bl b] => match S[i]? with
    | some (.lst l) => match toBools l with
      | some bs => match firstB b bs with
        | some j => .ok (.int (j : Nat)) S
        | none => .bad
      | none => .bad
    | _ => .bad
  | _, _ => .bad
theorem mm_index {N : Nms} {X : Cx} : MtMM N X "list.index" mIndex := by
  refine ⟨_, mt_index, fun m S H x xs u us Q E s rx rs h => ?_⟩
  unfold mIndex at h
  split at h
  · obtain ⟨a, rfl, hm⟩ := rx.ref'
    obtain ⟨w, rfl, rw'⟩ := rs.one
    cases rw'
    split at h
    · rename_i l hS
      split at h
      · rename_i bs hb
        split at h
        · rename_i j hj
          obtain ⟨ys, h1, h2⟩ := s.lst hm hS
          have e := bools_vr hb h2
          subst e
          obtain ⟨g1, g2⟩ := firstB_ok hj
          exact ⟨a, _, _, j, _, rfl, rfl, .inl (.inl h1), rfl, flat_bools, g1, by rw [eqV_bl]; simp, g2, h.ok s (.int _)⟩
        · exact h.elim
      · exact h.elim
    · exact h.elim
  · exact h.elim
/-! ### tables of classes -/
inductive LkA {κ : Type} (P : κ → Bool → Prop) : List (κ × Bool) → Prop
  | nil : LkA P []
  | cons {k : κ} {b : Bool} {r : List (κ × Bool)} : P k b → LkA P r → LkA P ((k, b) :: r)
theorem lk_ok {κ : Type} [BEq κ] [LawfulBEq κ] {P : κ → Bool → Prop} : ∀ {t : List (κ × Bool)}, LkA P t → ∀ k b, t.lookup k = some b → P k b
  | _, .nil, k, b, h => by cases h
  | _, .cons (k := k') (b := b') hp r, k, b, h => by
    rw [List.lookup_cons] at h
    split at h
    · rename_i e
      cases h
      rw [eq_of_beq e]
      exact hp
    · exact lk_ok r k b h
def anyF (t1 : List ((Nat × Nat) × Bool)) (c : Nat) : List Vl → Option Bool
  | [] => some false
  | .fn k :: r => match t1.lookup (c, k) with
    | some true => some true
    | some false => anyF t1 c r
    | none => none
  | _ => none
def ansOf (t1 : List ((Nat × Nat) × Bool)) (t2 : List ((Nat × String) × Bool)) (c : Nat) : Vl → Option Bool
  | .fn k => t1.lookup (c, k)
  | .ty t => t2.lookup (c, t)
  | .tup vs => if vs.all (fun v => match v with | .fn _ => true | _ => false) = true then anyF t1 c vs else none
  | _ => none
theorem fns_of : ∀ {vs : List Vl}, vs.all (fun v => match v with | .fn _ => true | _ => false) = true → ∃ ks : List Nat, vs = ks.map .fn
  | [], _ => ⟨[], rfl⟩
  | v :: vs, h => by
    rw [List.all_cons, Bool.and_eq_true] at h
    obtain ⟨ks, e⟩ := fns_of h.2
    cases v with
    | fn k => exact ⟨k :: ks, by rw [e]; rfl⟩
    | _ => exact absurd h.1 Bool.false_ne_true
theorem ans_ok {N : Nms} {K : PySem.W.Frag} {t1 : List ((Nat × Nat) × Bool)} {t2 : List ((Nat × String) × Bool)} (h1 : LkA (fun p b => PySem.W.kitOne K (.ref (He.ga K (N.g p.1))) (.ref (He.ga K (N.g p.2))) = some b) t1) (h2 : LkA (fun p b => PySem.W.kitOne K (.ref (He.ga K (N.g p.1))) (.type p.2) = some b) t2) (c : Nat) :
    ∀ v b, ansOf t1 t2 c v = some b → AnsOk N K (He.ga K (N.g c)) v b := by
  intro v b h
  cases v with
  | fn k => exact .inl ⟨k, rfl, lk_ok h1 (c, k) b h⟩
  | ty t => exact .inr (.inl ⟨t, rfl, lk_ok h2 (c, t) b h⟩)
  | tup vs =>
    rw [ansOf] at h
    split at h
    · rename_i hf
      obtain ⟨ks, rfl⟩ := fns_of hf
      refine .inr (.inr ⟨ks, rfl, ?_⟩)
      clear hf
      induction ks with
      | nil => cases h; rfl
      | cons k ks ih =>
        rw [List.map_cons, anyF] at h
        rw [List.map_cons]
        split at h
        · rename_i q
          cases h
          exact kitAny_cons (lk_ok h1 (c, k) true q) (fun z => by cases z) (fun _ => rfl)
        · rename_i q
          exact kitAny_cons (lk_ok h1 (c, k) false q) (fun _ => ih h) (fun z => by cases z)
        · cases h
    · cases h
  | _ => cases h
/-! ### two targets: t1 = t2 = e -/
def zAsg2 (a : XE') (g1 g2 : GM) : ZS := fun env S => (a env S).bindS env fun v S1 => (g1 v env S1).bindS env fun e1 S2 => (g2 v e1 S2).bindS e1 fun e2 S3 => .ok (.nx e2) S3
theorem ss_asg2 {N : Nms} {X : Cx} {W : L2.St → XK} {e : Expr} {fa : XE'} {pos : Pos} {t1 t2 : Expr} {g1 g2 : GM} (he : SE N X W e fa) (h1 : SG N X W t1 g1) (h2 : SG N X W t2 g2)
    (ha : (assignEach [t1, t2] X.env).map (·.2) = [assign t1 X.env, assign t2 X.env] := by rfl) (hw : swappedStores [t1, t2] e X.env = pure none := by rfl) : SS N X W (.Assign [t1, t2] e pos) (zAsg2 fa g1 g2) := by
  obtain ⟨u0, p0, s0⟩ := he.ex
  obtain ⟨u1, p1, s1⟩ := h1.ex
  obtain ⟨u2, p2, s2⟩ := h2.ex
  refine ⟨_, ps_asg2 p0 p1 p2 ha hw, fun m S H env σ D s er h => s0.stepS s er h fun v S1 m1 H1 u e1 sr1 r1 er1 h1 => ?_⟩
  refine s1 m1 S1 H1 env σ v u _ sr1 er1 r1 ?_
  cases q1 : g1 v env S1 with
  | ok en1 S2 =>
    rw [q1] at h1
    refine fun m2 H2 σ2 e2 sr2 er2 => s2 m2 S2 H2 en1 σ2 v u _ sr2 er2 (r1.mono e2) ?_
    have h2 : PostS N X.K m2 H2 D W ((g2 v en1 S2).bindS en1 fun e2 S3 => .ok (.nx e2) S3) := PostS.mono e2 h1
    cases q2 : g2 v en1 S2 with
    | ok en2 S3 => rw [q2] at h2; exact h2
    | err c' x' S4 => rw [q2] at h2; exact fun m' H' d e' s' x' => h2 m' H' d σ2 e' s' (er2.mono e') x'
    | bad => rw [q2] at h2; exact h2.elim
  | err c' x' S4 => rw [q1] at h1; exact fun m' H' d e' s' x' => h1 m' H' d σ e' s' (er1.mono e') x'
  | bad => rw [q1] at h1; exact h1.elim
end Nt

namespace Nt
open PySem PySem.Spec PyProof.Rows L2 Evl
/-! ### several except clauses, each with a name of its own -/
inductive Hd2 (X : Cx) (Wout : WX) : List ExceptHandler → (Ends → WX) → Prop
  | nil : Hd2 X Wout [] (fun _ => Wout)
  | nm {x n : Str} {c : Value} {i : Nat} {ts : Addr → Value → Option Addr → TS} {b₀ : Stmt} {suite : List Stmt} {np p2 : Pos} {r : List ExceptHandler} {w : Ends → WX} (hN : X.N.Nodup) (hi : X.N[i]? = some n) (hl : X.env.kindOf n = some .local) (hc : Names X x c)
      (hsu : ∀ (a : Addr) (oe : Obj) (cls : Value) (d : Option Addr) (pn : List (Addr × Obj)), L2N.Zn cls d oe → (∃ vs, oe.data = .fields vs) → PSs (X.suite a ((a, oe) :: pn)) (b₀ :: suite) (ts a cls d)) (k : Hd2 X Wout r w) :
      Hd2 X Wout (.ExceptHandler (some (.Name x np)) (some n) (b₀ :: suite) p2 :: r) (fun D => wAs X.K c i ts (w D) D)
section
variable {X : Cx} {body : List Stmt} {h0 : ExceptHandler} {hds : List ExceptHandler} {w : Ends → WX} {pos : Pos} {tb : WX → TS} {Wout : WX}
theorem ps_tryM (stk : X.stack = X.env :: X.outer) (hfl : X.env.frame = some X.env.locals) (tk : L2N.Takes X Wout)
    (bd : ∀ (W : WX) (pn : List (Addr × Obj)) (xe : Value → Shared → Prop), L2N.Takes (X.tr pn xe) W → PassesOwn (model X.prog X.w) X.A X.env xe → PSs (X.tr pn xe) body (tb W))
    (hh : Hd2 X Wout (h0 :: hds) w) : PS X (.Try body (h0 :: hds) [] [] pos) (fun D σ H => tb (w D) D σ H) := by
  refine ⟨fun pins s σ H D I hyp => ?_⟩
  have iok := I.ok
  have frm : X.A.frames = some (X.env :: X.outer) := by rw [iok.frames, stk]
  refine wpAny_Try_except ?_
  have pb := bd (w D) (X.pn ++ pins) (fun e s₁ => wpAny (model X.prog X.w) X.A (noteFrame e X.env) (fun _ s₂ => wpAny (model X.prog X.w) X.A (setFlight e none) (fun _ s₃ => wpAny (model X.prog X.w) X.A (handleBy e X.env (h0 :: hds)) (SP X pins D) X.xe s₃) X.xe s₂) X.xe s₁)
  refine wpAny_mono ((pb (fun u t cx => ?_) PassesOwn.looking).run [] s σ H D (I.toTry _) hyp) (fun fl s1 sp => ?_) (fun _ _ z => z)
  · obtain ⟨a, B, s0, pins2, σ1, H1, cls, d, rfl, Jt, nb, up, sky, na, os, ag, ww⟩ := cx
    have J : Inv X pins σ1 H1 s0 := Jt.ofTry iok
    have sk2 : Sky B (X.env :: X.outer) a (L2N.Zn cls d) X.env.locals t.heap := by rw [← stk]; exact sky
    show wpAny (model X.prog X.w) X.A (noteFrame (.ref a) X.env) _ _ _
    refine L2N.Sky.land L2N.Zn.steady frm hfl sk2 fun g3 f3 u3 => ?_
    have J3 : Inv X pins σ1 H1 { t with heap := g3 } := J.landed nb f3.1 (up.trans u3) os ag
    obtain ⟨o3, v3, e3, z3, d3⟩ := f3.there
    have off : a ∉ frs (X.env :: X.outer) := fun hm => by
      obtain ⟨_, o', e', hnf⟩ := f3.2.2.1.mem hm
      rw [e3] at e'
      cases e'
      exact hnf _ d3
    have nL : a ≠ X.env.locals := fun z => off (List.mem_filterMap.mpr ⟨X.env, List.mem_cons_self, by rw [hfl, z]⟩)
    have nF : a ∉ X.fs := fun hm => by
      obtain ⟨e, he, q⟩ := List.mem_filterMap.mp hm
      exact off (List.mem_filterMap.mpr ⟨e, List.mem_cons_of_mem _ he, q⟩)
    have S3 := J3.suite e3 d3 na nL nF
    have go : ∀ {hs' : List ExceptHandler} {w' : Ends → WX}, Hd2 X Wout hs' w' → w' D cls d σ1 H1 →
        wpAny (model X.prog X.w) X.A (handleBy (.ref a) X.env hs') (SP X pins D) X.xe { t with heap := g3 } := by
      intro hs' w' hk
      induction hk with
      | nil =>
        intro wo
        refine wpAny_handleBy_nil ?_
        obtain ⟨k1, k2, k3, oe, vs, T, oT, ts', he, hz, hd, h1, hr⟩ := id f3
        unfold PySem.passOn
        refine wpAny_bind (wpAny_field he hd h1 ?_)
        rw [if_neg (show ¬ ((Value.ref T == Value.none) = true) from by simp)]
        have last : wpAny (model X.prog X.w) X.A (setFlight (.ref a) X.env.frame) (fun _ s4 => wpAny (model X.prog X.w) X.A (throw (.ref a) : Sem Flow) (SP X pins D) X.xe s4) X.xe { t with heap := g3 } := by
          rw [hfl]
          refine HandSPX.setFlight_upZ f3 fun g4 hh4 u4 => wpAny_throw (tk _ _ ?_)
          exact ⟨a, B, s0, pins, σ1, H1, cls, d, rfl, J, nb, (up.trans u3).trans u4, .inr (.inr (by rw [stk]; exact hh4)), na, os, ag, wo⟩
        first
          | exact wpAny_bind (wpAny_pure (wpAny_bind last))
          | exact wpAny_bind last
      | @nm x n c i ts b₀ suite np p2 r w2 hN hi hl hc hsu k ih =>
        intro wo
        obtain ⟨b, hb1, hyes, hno⟩ := wo
        refine wpAny_handleBy_cons (codeAny_handlers_test ?_) (by intro q; cases q)
        have lk : PySem.W.Looks (model X.prog X.w) g3 (typeOf (.ref a)) cls := fun A Q E s k q => wpAny_typeOf_ref (k _ _ e3) (by rw [z3.1]; exact q)
        have lm := PySem.W.exm_one (M := model X.prog X.w) (J3.kIn) lk hb1
        have named : ∀ {Q : Value → Shared → Prop} {E : Value → Shared → Prop}, Q c { t with heap := g3 } → wpAny (model X.prog X.w) (X.A.mark (some (.ref a))) (eval (.Name x np) X.env) Q E { t with heap := g3 } := fun {Q E} q => by
          obtain ⟨g1, g2, g4 | ⟨g4, g5, g6⟩⟩ := hc
          · exact ld_glob (X := X.suite a ((a, o3) :: (X.pn ++ pins))) S3 g1 g4 q g2
          · exact ld_blt (X := X.suite a ((a, o3) :: (X.pn ++ pins))) S3 g1 g4 g5 q g6 g2
        refine named (lm.here ?_)
        cases b with
        | true =>
          refine codeAny_handlers_suite_as ?_
          refine HandSPX.lands_againZ f3 fun g4 f4 u4 => ?_
          have J4 : Inv X pins σ1 H1 { t with heap := g4 } := J.landed nb f4.1 ((up.trans u3).trans u4) os ag
          obtain ⟨o4, v4, e4, z4, d4⟩ := f4.there
          have S4 := J4.suite e4 d4 na nL nF
          refine store_ok (X := X.suite a ((a, o4) :: (X.pn ++ pins))) (v := .ref a) S4 hN hi (.inl hl) rfl (fun s5 S5 => ?_) (.inr hl)
          refine wpAny_mono ((hsu a o4 cls d (X.pn ++ pins) z4 ⟨_, d4⟩).run [] s5 _ H1 _ S5 (hyes rfl a na)) (fun f s6 sp => ?_) (fun _ _ z => False.elim z)
          have bye : ∀ {σ6 : L2.St} {H6 : Hp} {Q : Shared → Prop}, Inv (X.suite a ((a, o4) :: (X.pn ++ pins))) [] σ6 H6 s6 → (∀ s7, Inv X pins (σ6.set i none) H6 s7 → Q s7) →
              wpAny (model X.prog X.w) X.A (do bindName X.env n .none; unbindBehindTheSuite X.env n p2) (fun _ s7 => Q s7) X.xe s6 := fun {σ6 H6 Q} S6 hq => gone_ok (S6.unsuite iok) hN hi hl hq
          cases f with
          | next => obtain ⟨_, _, S6, q6⟩ := sp; exact bye S6 fun s7 J7 => ⟨_, _, J7, q6⟩
          | brk => obtain ⟨_, _, S6, q6⟩ := sp; exact bye S6 fun s7 J7 => ⟨_, _, J7, q6⟩
          | cont => obtain ⟨_, _, S6, q6⟩ := sp; exact bye S6 fun s7 J7 => ⟨_, _, J7, q6⟩
          | ret u => obtain ⟨_, _, _, S6, r6, q6⟩ := sp; exact bye S6 fun s7 J7 => ⟨_, _, _, J7, r6, q6⟩
        | false =>
          show wpAny _ X.A (handleBy (.ref a) X.env r) _ _ _
          exact ih (hno rfl)
    exact go hh ww
  · cases fl with
    | next => obtain ⟨σ2, H2, J2, q⟩ := sp; exact wpAny_execs_nil ⟨σ2, H2, J2.ofTry iok, q⟩
    | brk => obtain ⟨σ2, H2, J2, q⟩ := sp; exact ⟨σ2, H2, J2.ofTry iok, q⟩
    | cont => obtain ⟨σ2, H2, J2, q⟩ := sp; exact ⟨σ2, H2, J2.ofTry iok, q⟩
    | ret u => obtain ⟨v, σ2, H2, J2, r, q⟩ := sp; exact ⟨v, σ2, H2, J2.ofTry iok, r, q⟩
end
/-! the mirror -/
abbrev Cl := Nat × (Nat → Option Bool) × (Nat → ZS)
def catchM : List Cl → Out Fl → Out Fl
  | [], o => o
  | (i, mt, fs) :: r, o => match o with
    | .ok (.er c x e) S => match mt c, x with
      | some true, none => if i < e.length then outS i (fs c (e.set i none) S) else .bad
      | some false, _ => catchM r (.ok (.er c x e) S)
      | _, _ => .bad
    | o => o
def zTryM (cl : List Cl) (fb : ZS) : ZS := fun env S => catchM cl (fb env S)
inductive SCl (N : Nms) (X : Cx) : List ExceptHandler → List Cl → Prop
  | nil : SCl N X [] []
  | cons {x n : Str} {C : Addr} {i : Nat} {b₀ : Stmt} {suite : List Stmt} {np p2 : Pos} {r : List ExceptHandler} {mt : Nat → Option Bool} {fs : Nat → ZS} {cl : List Cl} (hN : X.N.Nodup) (hi : X.N[i]? = some n) (hl : X.env.kindOf n = some .local) (hc : Names X x (.ref C))
      (hm : ∀ c b, mt c = some b → PySem.W.exmOne X.K (.ref (He.ga X.K (N.g c))) (.ref C) = some b)
      (hsu : ∀ c, mt c = some true → ∀ (a : Addr) (oe : Obj) (pn : List (Addr × Obj)), L2N.Zn (.ref (He.ga X.K (N.g c))) none oe → (∃ vs, oe.data = .fields vs) → SSs (N.hld i a) (X.suite a ((a, oe) :: pn)) (fun _ => E0) (b₀ :: suite) (fs c)) (k : SCl N X r cl) :
      SCl N X (.ExceptHandler (some (.Name x np)) (some n) (b₀ :: suite) p2 :: r) ((i, mt, fs) :: cl)
section
variable {N : Nms} {X : Cx} {W : L2.St → XK} {body : List Stmt} {h : ExceptHandler} {hds : List ExceptHandler} {pos : Pos} {fb : ZS} {cl : List Cl}
theorem SCl.hd (h0 : N.xh = none) (hk : SCl N X hds cl) : ∃ w, Hd2 X (fun cls d σ H => W σ cls d H) hds w ∧ ∀ (D : Ends) (c : Nat) (x : Option Nat) (e : En) (S : Sto) (m : List Addr) (H : Hp), PostS N X.K m H D W (catchM cl (.ok (.er c x e) S)) → PostS N X.K m H D (fun σ cls d H => w D cls d σ H) (.ok (.er c x e) S) := by
  induction hk with
  | nil => exact ⟨_, .nil, fun D c x e S m H h => h⟩
  | @cons x n C i b₀ suite np p2 r mt fs cl hN hi hl hc hm hsu k ih =>
    obtain ⟨w, hw, hp⟩ := ih
    refine ⟨_, .nm (c := .ref C) (i := i) (ts := fun a cls d D σ H => ∃ c m S env, mt c = some true ∧ cls = .ref (He.ga X.K (N.g c)) ∧ d = none ∧ SR (N.hld i a) X.K m S H ∧ EnR (N.hld i a) X.K m H env σ ∧ PostS (N.hld i a) X.K m H D (fun _ => E0) (fs c env S)) hN hi hl hc (fun a oe cls d pn hz hv => ⟨fun pins s σ H D I ⟨c, m, S, env, q1, q2, q3, q4, q5, q6⟩ => ?_⟩) hw, fun D c y e S m H h => ?_⟩
    · subst q2
      subst q3
      obtain ⟨t, p, sm⟩ := (hsu c q1 a oe pn hz hv).ex
      exact p.run pins s σ H D I (sm m S H env σ D q4 q5 q6)
    · intro m' H' d σ' e' s' er' xd
      unfold catchM at h
      dsimp only at h
      split at h
      · rename_i hmt
        split at h
        · rename_i hlt
          refine ⟨true, hm c true hmt, fun _ a ha => ?_, fun z => (by cases z)⟩
          have hd : d = none := by cases d with
            | none => rfl
            | some b => exact xd.elim
          refine ⟨c, m', S, e.set i none, hmt, rfl, hd, s'.toH, er'.suite hlt, ?_⟩
          cases hr : fs c (e.set i none) S with
          | bad => rw [hr] at h; exact h
          | err c2 x2 S2 => rw [hr] at h; exact h.elim
          | ok fl S2 =>
            rw [hr] at h
            cases fl with
            | nx e2 => exact fun m2 H2 σ2 e3 s3 er3 => h m2 H2 (σ2.set i none) (e'.trans e3) s3.ofH (er3.out h0)
            | rt v => exact fun m2 H2 u e3 s3 r3 => h m2 H2 u (e'.trans e3) s3.ofH r3.ofH
            | bk e2 => exact h.elim
            | ct e2 => exact h.elim
            | er c2 x2 e2 => exact h.elim
        · exact h.elim
      · rename_i hmt
        exact ⟨false, hm c false hmt, fun z => (by cases z), fun _ => hp D c _ e S m H h m' H' d σ' e' s' er' xd⟩
      · exact h.elim
theorem ss_tryM (hs : X.stack = X.env :: X.outer) (hf : X.env.frame = some X.env.locals) (tk : L2N.Takes X (fun cls d σ H => W σ cls d H))
    (hb : ∀ (W' : WX) (pn : List (Addr × Obj)) (xe : Value → Shared → Prop), L2N.Takes (X.tr pn xe) W' → PassesOwn (model X.prog X.w) X.A X.env xe → SSs N (X.tr pn xe) (fun σ cls d H => W' cls d σ H) body fb)
    (hk : SCl N X (h :: hds) cl) (h0 : N.xh = none := by rfl) : SS N X W (.Try body (h :: hds) [] [] pos) (zTryM cl fb) := by
  obtain ⟨w, hw, hp⟩ := SCl.hd (W := W) h0 hk
  refine ⟨_, ps_tryM (tb := fun W' => cSs N X.K (fun σ cls d H => W' cls d σ H) fb) hs hf tk (fun W' pn xe h1 h2 => (hb W' pn xe h1 h2).pss) hw, fun m S H env σ D s er hx => ⟨m, S, env, s, er, ?_⟩⟩
  have hx : PostS N X.K m H D W (catchM cl (fb env S)) := hx
  cases cl with
  | nil => cases hk
  | cons q cl =>
    obtain ⟨i, mt, fs⟩ := q
    cases ho : fb env S with
    | bad => rw [ho] at hx; exact hx
    | err c x S1 => rw [ho] at hx; exact hx
    | ok fl S1 =>
      rw [ho] at hx
      cases fl with
      | nx e => exact hx
      | rt v => exact hx
      | bk e => exact hx
      | ct e => exact hx
      | er c x e => exact hp D c x e S1 m H hx
end
/-! the roots of exceptions -/
theorem boot_ValueError : bootBuiltins "ValueError" = some (.type "ValueError") := by decide +kernel
theorem boot_LookupError : bootBuiltins "LookupError" = some (.type "LookupError") := by decide +kernel
theorem boot_OverflowError : bootBuiltins "OverflowError" = some (.type "OverflowError") := by decide +kernel
theorem boot_RuntimeError : bootBuiltins "RuntimeError" = some (.type "RuntimeError") := by decide +kernel
theorem boot_IndexError : bootBuiltins "IndexError" = some (.type "IndexError") := by decide +kernel
theorem zTryM_e {cl : List Cl} {fb : ZS} {env : En} {S : Sto} : zTryM cl fb env S = catchM cl (fb env S) := rfl
theorem catchM_nx {cl : List Cl} {e : En} {S : Sto} : catchM cl (.ok (.nx e) S) = .ok (.nx e) S := by cases cl <;> rfl
theorem catchM_rt {cl : List Cl} {v : Vl} {S : Sto} : catchM cl (.ok (.rt v) S) = .ok (.rt v) S := by cases cl <;> rfl
def kCM (o : Option Bool) (x : Option Nat) (i : Nat) (fs : Nat → ZS) (r : List Cl) (c : Nat) (e : En) (S : Sto) : Out Fl := match o, x with
  | some true, none => if i < e.length then outS i (fs c (e.set i none) S) else .bad
  | some false, _ => catchM r (.ok (.er c x e) S)
  | _, _ => .bad
theorem catchM_er {i : Nat} {mt : Nat → Option Bool} {fs : Nat → ZS} {r : List Cl} {c : Nat} {x : Option Nat} {e : En} {S : Sto} : catchM ((i, mt, fs) :: r) (.ok (.er c x e) S) = kCM (mt c) x i fs r c e S := rfl
theorem kCM_t {i : Nat} {fs : Nat → ZS} {r : List Cl} {c : Nat} {e : En} {S : Sto} : kCM (some true) none i fs r c e S = if i < e.length then outS i (fs c (e.set i none) S) else .bad := rfl
theorem kCM_f {i : Nat} {fs : Nat → ZS} {r : List Cl} {c : Nat} {x : Option Nat} {e : En} {S : Sto} : kCM (some false) x i fs r c e S = catchM r (.ok (.er c x e) S) := rfl
end Nt

namespace Nt
open PySem PySem.Spec PyProof.Rows L2 Evl
/-! ### name = {k: v for ..} on one line, the name a local -/
section
variable {X : Cx}
theorem ps_setDc {i : Nat} {y : Str} {py : Pos} {kx vx tg iter : Expr} {ifs : List Expr} {scope : Scope} {own : List (Str × Nat)} {pos sp : Pos} {wi : TI} {g : TG} {tt : TT} {tk tv : TE} (cm : X.calm = true) (nd : X.N.Nodup) (at_ : X.N[i]? = some y) (lo : X.env.scope.names.lookup y = some .local)
    (sw : swapsWith (.DictComp kx vx [⟨tg, iter, ifs, 0⟩] scope pos) (some (.Name y py)) sp.line X.env = pure true) (pi : PI X tg iter wi) (bo : BlkOk X.N X.env.scope scope own)
    (pg : ∀ (s : Shared) (H : Hp) (C : Addr) (cl : List (Str × Addr)) (fp : List Addr), PG (X.blk s H scope (compEnvC scope cl C X.env) fp) tg g) (pt : ∀ (s : Shared) (H : Hp) (C : Addr) (cl : List (Str × Addr)) (fp : List Addr), PTs (X.blk s H scope (compEnvC scope cl C X.env) fp) ifs tt)
    (pk : ∀ (s : Shared) (H : Hp) (C : Addr) (cl : List (Str × Addr)) (fp : List Addr), PE (X.blk s H scope (compEnvC scope cl C X.env) fp) kx tk)
    (pv : ∀ (s : Shared) (H : Hp) (C : Addr) (cl : List (Str × Addr)) (fp : List Addr), PE (X.blk s H scope (compEnvC scope cl C X.env) fp) vx tv) (fo : ∀ x, foldedSetIterable iter X.env x = pure x := by intro _; rfl) :
    PS X (.Assign [.Name y py] (.DictComp kx vx [⟨tg, iter, ifs, 0⟩] scope pos) sp) (tAsg (tDc wi g tt tk tv (own.map (·.2))) (gName i)) := by
  refine ⟨fun pins s σ H D I hyp => ?_⟩
  rw [exec_Assign_Name_used _ _ _ _ sw]
  refine wpAny_bind (wpAny_standAt (wpAny_bind ?_))
  show wpAny _ X.A (do let _ ← comprehension (.DictComp kx vx [⟨tg, iter, ifs, 0⟩] scope pos) scope X.env (firstIterPos [⟨tg, iter, ifs, 0⟩] pos) newDict false (eval iter X.env) (some (assign (.Name y py) X.env))) _ _ s
  have hyp : tDc wi g tt tk tv (own.map (·.2)) σ H (fun x H1 => gName i x σ H1 D.nx) := hyp
  refine wpAny_bind (thn (dc_core (Qf := fun _ s' => SP X pins D .next s') cm nd I pi bo pg pt pk pv fo hyp fun L C t m H2 J q ns f => ?_) fun _ s' hq => wpAny_pure (wpAny_pure hq))
  show wpAny _ _ (assign (.Name y py) X.env (.ref L)) _ _ _
  refine wpAny_assign_Name (store_ok2 (v := V.ref L) J nd at_ (.inl lo) rfl (fun t2 J2 ⟨a, sb, ha⟩ => ?_) (.inr lo))
  obtain ⟨f0, f1, f2, f3, f4, f5⟩ := f
  have ne : C ≠ a := by
    rcases ha with z | z
    · rw [z]
      exact f1
    · exact fun e => f4 y a z e.symm
  refine ⟨m, ns.sameBut sb ne, fun h3 sb3 => ⟨_, H2, J2.turned (t' := t2.toks) (fun b o hb e => (sb3.2 b hb).trans e) f0 f1 f3 f4 f5, q⟩⟩
theorem sw_dict {kx vx : Expr} {gs : List Comprehension} {scope : Scope} {pos py : Pos} {y : Str} {l : Nat} {env : Env} (hk : env.scope.kind = .function) (hy : env.scope.names.lookup y = some .local) (hl : (py.line == pos.line) = true)
    (ha : (scope.names.any fun (n, k) => n == y && (k == .local || k == .cell)) = false) : swapsWith (.DictComp kx vx gs scope pos) (some (.Name y py)) l env = pure true := by
  have ky : env.kindOf y = some .local := hy
  have bk : env.blockKind = .function := by
    unfold Env.blockKind
    rw [hk]
    rfl
  unfold swapsWith
  simp only [bk, ky, ha, Expr.pos, hl]
  rfl
end
section
variable {N : Nms} {X : Cx} {W : L2.St → XK} {kx vx tg iter : Expr} {scope : Scope} {own : List (Str × Nat)} {pos : Pos} {g : TG} {gm : GM} {fi : En → Sto → Out Itm} {fk fe : XE'}
theorem ss_setDc {i : Nat} {y : Str} {py spos : Pos} (hc : X.calm = true) (hN : X.N.Nodup) (hi : SI N X W tg iter fi) (ok : BlkOk X.N X.env.scope scope own) (hgv : SimGV N X.K (own.map (·.2)) g gm)
    (hg : ∀ (s : Shared) (H : Hp) (C : Addr) (cl : List (Str × Addr)) (fp : List Addr), PG (X.blk s H scope (compEnvC scope cl C X.env) fp) tg g) (hk : ∀ (s : Shared) (H : Hp) (C : Addr) (cl : List (Str × Addr)) (fp : List Addr), SE N (X.blk s H scope (compEnvC scope cl C X.env) fp) (fun _ => E0) kx fk)
    (he : ∀ (s : Shared) (H : Hp) (C : Addr) (cl : List (Str × Addr)) (fp : List Addr), SE N (X.blk s H scope (compEnvC scope cl C X.env) fp) (fun _ => E0) vx fe)
    (hy : X.N[i]? = some y) (hyl : X.env.scope.names.lookup y = some .local) (hsw : swapsWith (.DictComp kx vx [⟨tg, iter, [], 0⟩] scope pos) (some (.Name y py)) spos.line X.env = pure true)
    (hs : ∀ x, foldedSetIterable iter X.env x = pure x := by intro _; rfl) (h0 : N.xh = none := by rfl) : SS N X W (.Assign [.Name y py] (.DictComp kx vx [⟨tg, iter, [], 0⟩] scope pos) spos) (zAsg (xDc fi gm yYes fk fe (own.map (·.2))) (gmName i)) := by
  obtain ⟨wi, p0, s0⟩ := hi.ex
  exact ⟨_, ps_setDc hc hN hy hyl hsw p0 ok hg (fun _ _ _ _ _ => pts_nil) (fun s H C cl fp => (hk s H C cl fp).pe) (fun s H C cl fp => (he s H C cl fp).pe) hs, fun m S H env σ D s er h => (sim_dc s0 hgv sim_yes cE_sim cE_sim h0).stepS s er h fun v S1 m1 H1 u e1 sr1 r1 er1 h1 => h1 m1 H1 _ Ext.refl sr1 (er1.set (Nms.fr0 h0) r1)⟩
end
end Nt

namespace Nt
open PySem PySem.Spec PyProof.Rows L2 Evl
/-! ### a dict is locked while it is walked -/
structure Ex0 (K : PySem.W.Frag) (m : List Addr) (H : Hp) (m' : List Addr) (H' : Hp) : Prop where
  pre : ∀ (i : Nat) (a : Addr), m[i]? = some a → m'[i]? = some a
  tup : ∀ a xs, H a = some (.tup xs) → H' a = some (.tup xs)
  ktp : ∀ a xs, SqT K H a xs → SqT K H' a xs
  scr : ∀ a xs, SqF K H a xs → SqF K H' a xs
section
variable {N : Nms} {K : PySem.W.Frag} {m m' : List Addr} {H H' : Hp}
mutual
theorem Vr.m0 (e : Ex0 K m H m' H') : ∀ {x : Vl} {u : V}, Vr N K m H x u → Vr N K m' H' x u
  | _, _, .non => .non
  | _, _, .bl b => .bl b
  | _, _, .int b => .int b
  | _, _, .str b => .str b
  | _, _, .ty b => .ty b
  | _, _, .tup h r => .tup (e.tup _ _ h) (Vrs.m0 e r)
  | _, _, .ktp h r => .ktp (e.ktp _ _ h) (Vrs.m0 e r)
  | _, _, .ref h => .ref (e.pre _ _ h)
  | _, _, .fn k => .fn k
  | _, _, .scr h => .scr (e.scr _ _ h)
theorem Vrs.m0 (e : Ex0 K m H m' H') : ∀ {x : List Vl} {u : List V}, Vrs N K m H x u → Vrs N K m' H' x u
  | _, _, .nil => .nil
  | _, _, .cons h r => .cons (Vr.m0 e h) (Vrs.m0 e r)
end
theorem KR.m0 {κ : Type} (e : Ex0 K m H m' H') : ∀ {x : List (κ × Vl)} {u : List (κ × V)}, KR N K m H x u → KR N K m' H' x u
  | _, _, .nil => .nil
  | _, _, .cons h r => .cons (h.m0 e) (KR.m0 e r)
theorem FR.m0 (e : Ex0 K m H m' H') : ∀ {x : List (Nat × Vl)} {u : List (Str × V)}, FR N K m H x u → FR N K m' H' x u
  | _, _, .nil => .nil
  | _, _, .cons h r => .cons (h.m0 e) (FR.m0 e r)
theorem ObR.m0 {o : Ob} {u : HO} (e : Ex0 K m H m' H') : ObR N K m H o u → ObR N K m' H' o u
  | .lst h => .lst (h.m0 e)
  | .dk h => .dk (h.m0 e)
  | .dt h => .dt (h.m0 e)
  | .ins h => .ins (h.m0 e)
  | .xd h => .xd (h.m0 e)
  | .fz h => .fz (h.m0 e)
theorem EnR.m0 {env : En} {σ : L2.St} (h : EnR N K m H env σ) (e : Ex0 K m H m' H') : EnR N K m' H' env σ := ⟨h.len, fun i v q => by
  obtain ⟨u, h1, h2⟩ := h.at_ i v q
  exact ⟨u, h1, h2.m0 e⟩, h.hd, fun i a j d q r => e.pre _ _ (h.hj i a j d q r)⟩
theorem Ex0.unl {a : Addr} {od : Obj} {ys : List (Key × V)} {v : HO} (h : H a = some (.frz od (.dK ys))) : Ex0 K m H m (upd H a v) := ⟨fun _ _ z => z, fun b xs z => by rw [upd_ne (fun q => by rw [q, h] at z; cases z)]; exact z, fun b xs z => by
    rcases z with (z | ⟨o, z⟩) | z
    · exact .inl (.inl (by rw [upd_ne (fun q => by rw [q, h] at z; cases z)]; exact z))
    · exact .inl (.inr ⟨o, by rw [upd_ne (fun q => by rw [q, h] at z; cases z)]; exact z⟩)
    · exact .inr z, fun b xs z => by
    rcases z with ⟨o, z⟩ | z
    · exact .inl ⟨o, by rw [upd_ne (fun q => by rw [q, h] at z; cases z)]; exact z⟩
    · exact .inr z⟩
theorem SR.unl {S : Sto} {d : Nat} {a : Addr} {od : Obj} {kvs : List (Key × Vl)} {ys : List (Key × V)} (s : SR N K m S H) (hm : m[d]? = some a) (hS : S[d]? = some (.fz kvs)) (hH : H a = some (.frz od (.dK ys))) : SR N K m (S.set d (.dk kvs)) (upd H a (.dK ys)) := by
  have e : Ex0 K m H m (upd H a (.dK ys)) := Ex0.unl hH
  obtain ⟨u, h1, h2⟩ := s.at_ hm hS
  rw [hH] at h1
  cases h1
  cases h2 with
  | fz kr =>
    refine ⟨by rw [List.length_set]; exact s.len, s.inj, fun j p hj => ?_⟩
    rw [List.getElem?_set] at hj
    split at hj
    · rename_i q
      split at hj
      · cases hj
        subst q
        exact ⟨a, _, hm, upd_same, .dk (kr.m0 e)⟩
      · cases hj
    · rename_i q
      obtain ⟨b, u', h1, h2, h3⟩ := s.ob j p hj
      have hn : b ≠ a := fun z => q (s.inj d j a hm (z ▸ h1))
      exact ⟨b, u', h1, by rw [upd_ne hn]; exact h2, h3.m0 e⟩
theorem ext_lock {a : Addr} {od : Obj} {ys : List (Key × V)} (hH : H a = some (.dK ys)) (e : Ext K m (upd H a (.frz od (.dK ys))) m' H') : Ext K m H m' (upd H' a (.dK ys)) := by
  have e1 : Ext K m H m (upd H a (.frz od (.dK ys))) := Ext.upd hH trivial
  have hf := e.frz a od (.dK ys) upd_same
  have e0 : Ex0 K m' H' m' (upd H' a (.dK ys)) := Ex0.unl hf
  have et := e1.trans e
  exact ⟨et.pre, fun b xs z => e0.tup b xs (et.tup b xs z), fun b xs z => e0.ktp b xs (et.ktp b xs z), fun b xs z => e0.scr b xs (et.scr b xs z), fun b o u z => by
    rw [upd_ne (fun q => by rw [q, hH] at z; cases z)]
    exact et.frz b o u z⟩
end
def unlk (d : Nat) (o : Out Fl) : Out Fl := match o with
  | .ok (.nx e) S => match S[d]? with
    | some (.fz kvs) => .ok (.nx e) (S.set d (.dk kvs))
    | _ => .bad
  | .ok (.rt v) S => match S[d]? with
    | some (.fz kvs) => .ok (.rt v) (S.set d (.dk kvs))
    | _ => .bad
  | _ => .bad
def zLock (fd : En → Sto → Option Nat) (f : ZS) : ZS := fun env S => match fd env S with
  | some d => match S[d]? with
    | some (.dk kvs) => unlk d (f env (S.set d (.fz kvs)))
    | _ => .bad
  | none => .bad
def unlkE (d : Nat) (o : Out Vl) : Out Vl := match o with
  | .ok v S => match S[d]? with
    | some (.fz kvs) => .ok v (S.set d (.dk kvs))
    | _ => .bad
  | _ => .bad
def xLock (fd : En → Sto → Option Nat) (f : XE') : XE' := fun env S => match fd env S with
  | some d => match S[d]? with
    | some (.dk kvs) => unlkE d (f env (S.set d (.fz kvs)))
    | _ => .bad
  | none => .bad
section
variable {N : Nms} {X : Cx} {W : L2.St → XK} {st : Stmt} {f : ZS} {fd : En → Sto → Option Nat} {e : Expr} {fe : XE'}
theorem ss_lock (h : SS N X W st f) : SS N X W st (zLock fd f) := by
  obtain ⟨t, p, sm⟩ := h.ex
  refine ⟨_, ps_lock p, fun m S H env σ D s er hx => ?_⟩
  unfold zLock at hx
  split at hx
  · rename_i d hd
    split at hx
    · rename_i kvs hS
      obtain ⟨a, u, h1, h2, h3⟩ := s.ob d _ hS
      cases h3 with
      | @dk _ ys kr =>
        refine ⟨a, .dK ys, h2, trivial, fun od => ?_⟩
        have e1 : Ext X.K m H m (upd H a (.frz od (.dK ys))) := Ext.upd h2 trivial
        have s1 := s.set h1 h2 trivial (.fz (od := od) kr)
        refine sm m _ _ env σ _ s1 (er.mono e1) ?_
        cases ho : f env (S.set d (.fz kvs)) with
        | bad => rw [ho] at hx; exact hx.elim
        | err c x S1 => rw [ho] at hx; exact hx.elim
        | ok fl S1 =>
          rw [ho] at hx
          cases fl with
          | nx ee =>
            unfold unlk at hx
            dsimp only at hx
            split at hx
            · rename_i kvs' hS1
              intro m' H' σ' e' s' er'
              have hf := e'.frz a od (.dK ys) upd_same
              have hm' := e'.pre _ _ h1
              exact ⟨hf, hx m' _ σ' (ext_lock h2 e') (s'.unl hm' hS1 hf) (er'.m0 (Ex0.unl hf))⟩
            · exact hx.elim
          | rt v =>
            unfold unlk at hx
            dsimp only at hx
            split at hx
            · rename_i kvs' hS1
              intro m' H' u e' s' r'
              have hf := e'.frz a od (.dK ys) upd_same
              have hm' := e'.pre _ _ h1
              exact ⟨hf, hx m' _ u (ext_lock h2 e') (s'.unl hm' hS1 hf) (r'.m0 (Ex0.unl hf))⟩
            · exact hx.elim
          | bk ee => exact hx.elim
          | ct ee => exact hx.elim
          | er c x ee => exact hx.elim
    · exact hx.elim
  · exact hx.elim
theorem se_lock (h : SE N X W e fe) : SE N X W e (xLock fd fe) := by
  obtain ⟨t, p, sm⟩ := h.ex
  refine ⟨_, pe_lock p, fun m S H env σ Q s er hx => ?_⟩
  unfold xLock at hx
  split at hx
  · rename_i d hd
    split at hx
    · rename_i kvs hS
      obtain ⟨a, u, h1, h2, h3⟩ := s.ob d _ hS
      cases h3 with
      | @dk _ ys kr =>
        refine ⟨a, .dK ys, h2, trivial, fun od => ?_⟩
        have e1 : Ext X.K m H m (upd H a (.frz od (.dK ys))) := Ext.upd h2 trivial
        have s1 := s.set h1 h2 trivial (.fz (od := od) kr)
        refine sm m _ _ env σ _ s1 (er.mono e1) ?_
        cases ho : fe env (S.set d (.fz kvs)) with
        | bad => rw [ho] at hx; exact hx.elim
        | err c x S1 => rw [ho] at hx; exact hx.elim
        | ok v S1 =>
          rw [ho] at hx
          unfold unlkE at hx
          dsimp only at hx
          split at hx
          · rename_i kvs' hS1
            intro m' H' u e' s' r'
            have hf := e'.frz a od (.dK ys) upd_same
            have hm' := e'.pre _ _ h1
            exact ⟨hf, hx m' _ u (ext_lock h2 e') (s'.unl hm' hS1 hf) (r'.m0 (Ex0.unl hf))⟩
          · exact hx.elim
    · exact hx.elim
  · exact hx.elim
end
/-! walks over a locked dict -/
def iFz (g : Key × Vl → Vl) (fe : XE') : En → Sto → Out Itm := fun env S => (fe env S).bind fun x S1 => match x with
  | .ref d => match S1[d]? with
    | some (.fz kvs) => .ok (itT (kvs.map g)) S1
    | _ => .bad
  | _ => .bad
abbrev gKey (kv : Key × Vl) : Vl := kVl kv.1
abbrev gItm (kv : Key × Vl) : Vl := .tup [kVl kv.1, kv.2]
theorem kVl_rv {N : Nms} {K : PySem.W.Frag} {m : List Addr} {H : Hp} (k : Key) : Vr N K m H (kVl k) (L2.kV k) := by
  cases k with
  | inl i => exact .int i
  | inr z => exact .str z
theorem krGet {N : Nms} {K : PySem.W.Frag} {m : List Addr} {H : Hp} {κ : Type} : ∀ {x : List (κ × Vl)} {u : List (κ × V)} {i : Nat} {k : κ} {v : Vl}, KR N K m H x u → x[i]? = some (k, v) → ∃ w, u[i]? = some (k, w) ∧ Vr N K m H v w
  | _, _, 0, _, _, .cons h _, e => by cases e; exact ⟨_, rfl, h⟩
  | _, _, i + 1, _, _, .cons _ r, e => krGet (i := i) r e
section
variable {N : Nms} {X : Cx} {W : L2.St → XK} {tg e : Expr} {fe : XE'} {apos cpos : Pos}
theorem itr_fzK {K : PySem.W.Frag} {m : List Addr} {H : Hp} {a : Addr} {od : Obj} {kvs : List (Key × Vl)} {ys : List (Key × V)} (hf : H a = some (.frz od (.dK ys))) (kr : KR N K m H kvs ys) : ItR N K m H (itT (kvs.map gKey)) (Itk a od ys) := fun m' S H' i e s => by
  have hf' := e.frz _ _ _ hf
  have kr' := kr.mono e
  show YdR N K m' H' (Itk a od ys) i (match (kvs.map gKey)[i]? with
    | some x => .yld x S
    | none => .stop)
  rw [List.getElem?_map]
  cases hx : kvs[i]? with
  | none => exact ⟨hf', by rw [← kr.len]; exact List.getElem?_eq_none_iff.mp hx⟩
  | some kv =>
    obtain ⟨k, v⟩ := kv
    obtain ⟨w, hw, rw'⟩ := krGet kr' hx
    refine ⟨⟨hf', (List.getElem?_eq_some_iff.mp hw).1⟩, fun u H'' hy => ?_⟩
    obtain ⟨rfl, k2, v2, hk, rfl⟩ := hy
    rw [hw] at hk
    cases hk
    exact ⟨m', Ext.refl, s, kVl_rv _⟩
theorem itr_fzI {K : PySem.W.Frag} {m : List Addr} {H : Hp} {a : Addr} {od : Obj} {kvs : List (Key × Vl)} {ys : List (Key × V)} (hf : H a = some (.frz od (.dK ys))) (kr : KR N K m H kvs ys) : ItR N K m H (itT (kvs.map gItm)) (Iti a od ys) := fun m' S H' i e s => by
  have hf' := e.frz _ _ _ hf
  have kr' := kr.mono e
  show YdR N K m' H' (Iti a od ys) i (match (kvs.map gItm)[i]? with
    | some x => .yld x S
    | none => .stop)
  rw [List.getElem?_map]
  cases hx : kvs[i]? with
  | none => exact ⟨hf', by rw [← kr.len]; exact List.getElem?_eq_none_iff.mp hx⟩
  | some kv =>
    obtain ⟨k, v⟩ := kv
    obtain ⟨w, hw, rw'⟩ := krGet kr' hx
    refine ⟨⟨hf', (List.getElem?_eq_some_iff.mp hw).1⟩, fun u H'' hy => ?_⟩
    obtain ⟨T, k2, v2, hk, rfl, hT, rfl⟩ := hy
    rw [hw] at hk
    cases hk
    have sm : Same H' (upd H' T (.tup [L2.kV k, w])) := Same.new hT
    exact ⟨m', Ext.same sm, s.same sm, .tup upd_same (.cons (kVl_rv _) (.cons (rw'.mono (Ext.same sm)) .nil))⟩
theorem si_fzK (he : SE N X W e fe) : SI N X W tg e (iFz gKey fe) := by
  obtain ⟨t, p, sm⟩ := he.ex
  refine ⟨_, pi_keys p, fun m S H env σ Q s er h => sm.step s er h fun x S1 m1 H1 u e1 sr1 r1 er1 h1 => ?_⟩
  split at h1
  · rename_i d
    split at h1
    · rename_i kvs hS
      cases r1 with
      | @ref _ a hm =>
        obtain ⟨v, h2, h3⟩ := sr1.at_ hm hS
        cases h3 with
        | @fz od _ ys kr => exact ⟨a, od, rfl, .inl ⟨ys, h2, h1.ok sr1 (itr_fzK h2 kr)⟩⟩
    · exact h1.elim
  · exact h1.elim
theorem si_fzI {elts : List Expr} {kk : Nat} {tpos : Pos} (he : SE N X W e fe) (hbase : attributeBase e "items" X.env (eval e X.env) = eval e X.env := by rfl) (hline : (apos.endLine == cpos.line) = true := by rfl) : SI N X W (.Tuple elts kk tpos) (.Call (.Attribute e "items" apos) [] [] cpos) (iFz gItm fe) := by
  obtain ⟨t, p, sm⟩ := he.ex
  refine ⟨_, pi_items p hbase hline, fun m S H env σ Q s er h => sm.step s er h fun x S1 m1 H1 u e1 sr1 r1 er1 h1 => ?_⟩
  split at h1
  · rename_i d
    split at h1
    · rename_i kvs hS
      cases r1 with
      | @ref _ a hm =>
        obtain ⟨v, h2, h3⟩ := sr1.at_ hm hS
        cases h3 with
        | @fz od _ ys kr => exact ⟨a, od, ys, rfl, h2, h1.ok sr1 (itr_fzI h2 kr)⟩
    · exact h1.elim
  · exact h1.elim
end
end Nt

namespace Nt
open PySem PySem.Spec PyProof.Rows L2 Evl
/-! ### min(xs, default=z) of pairs of ints -/
def lexLt (p q : Int × Int) : Bool := if p.1 = q.1 then decide (p.2 < q.2) else decide (p.1 < q.1)
def minP (x : Int × Int) (xs : List (Int × Int)) : Int × Int := xs.foldl (fun a y => if lexLt y a = true then y else a) x
abbrev prV (p : Int × Int) : Vl := .tup [.int p.1, .int p.2]
def toPr : Vl → Option (Int × Int)
  | .tup [.int a, .int b] => some (a, b)
  | _ => none
def toPrs : List Vl → Option (List (Int × Int))
  | [] => some []
  | x :: r => match toPr x, toPrs r with
    | some p, some ps => some (p :: ps)
    | _, _ => none
theorem toPr_eq {x : Vl} {p : Int × Int} (h : toPr x = some p) : x = prV p := by
  unfold toPr at h
  split at h
  · cases h; rfl
  · cases h
theorem toPrs_eq : ∀ {xs : List Vl} {ps : List (Int × Int)}, toPrs xs = some ps → xs = ps.map prV
  | [], ps, h => by cases h; rfl
  | x :: r, ps, h => by
    unfold toPrs at h
    split at h
    · rename_i p qs h1 h2
      cases h
      rw [List.map_cons, ← toPr_eq h1, ← toPrs_eq h2]
    · cases h
theorem toPrs_map : ∀ (ps : List (Int × Int)), toPrs (ps.map prV) = some ps
  | [] => rfl
  | p :: ps => by
    rw [List.map_cons]
    unfold toPrs
    rw [toPrs_map ps]
    rfl
def vMinD : List Vl → List Vl → Sto → Out Vl
  | [.ref i], [z], S => match S[i]? with
    | some (.lst vs) => match toPrs vs with
      | some [] => .ok z S
      | some (y :: ys) => .ok (prV (minP y ys)) S
      | none => .bad
    | _ => .bad
  | _, _, _ => .bad
def rMinD (K : PySem.W.Frag) : List V → List V → Hp → VK → Prop := fun vs zs H Q => ∃ (a : Addr) (xs : List V) (ps : List (Int × Int)) (z : V), vs = [.ref a] ∧ zs = [z] ∧ SqL K H a xs ∧ DpAll K H xs (ps.map PySem.W.Datum.toD) ∧ (ps = [] → Q z H) ∧ ∀ (y : Int × Int) (ys : List (Int × Int)) (i : Nat) (x : V), ps = y :: ys → xs[i]? = some x → ps[i]? = some (minP y ys) → Q x H
theorem readsAll_get {h : Heap} : ∀ {us : List Value} {ds : List PyData} {as : List Addr} {i : Nat} {v : Value}, ReadsAll h us ds as → us[i]? = some v → ∃ d bs, ds[i]? = some d ∧ Reads h v d bs
  | _, _, _, 0, _, .cons r _, e => by cases e; exact ⟨_, _, rfl, r⟩
  | _, _, _, i + 1, _, .cons _ r, e => readsAll_get (i := i) r e
theorem toD_inj {α : Type} [DecidableEq α] [PySem.W.Datum α] {a b : α} (h : PySem.W.Datum.toD a = PySem.W.Datum.toD b) : a = b := by
  have e := PySem.W.Datum.eqv a b
  rw [h, PySem.W.Datum.eqv b b] at e
  simpa using e.symm
section
variable {N : Nms} {X : Cx} {W : L2.St → XK}
theorem cr_minD (hc : X.calm = true) (hu : X.A.units + 64 < cLine) : CallRK X (.builtin "min") [Str.ofString "default"] (rMinD X.K) := by
  intro pins s σ H xs zs us ws Q I r1 r2 h
  obtain ⟨a, vs, ps, z, rfl, rfl, hq, hd, q0, q1⟩ := h
  obtain ⟨u, rfl, ru⟩ := vals1 r1
  obtain ⟨w', rfl, rw'⟩ := vals1 r2
  cases ru
  obtain ⟨its, rv, pl, hz⟩ := I.list hq
  obtain ⟨as, hr⟩ := Dp.readsAll I _ _ _ hd rv
  refine PySem.W.min_list_datum_default (α := Int × Int) (xs := ps) (I.ok.hd hc) pl.isList ⟨as, by simpa using hr⟩ ?_ (fun e h' tk hk => ⟨z, H, I.kept (t' := tk) hk, rw', q0 e⟩) fun y ys i v h' tk e hi hm hk => ?_
  · exact Nat.lt_of_le_of_lt (by show X.A.units + 1 + PySem.W.Datum.depth (Int × Int) ≤ X.A.units + 64; have : PySem.W.Datum.depth (Int × Int) ≤ 60 := by decide
                                 omega) hu
  · have hi' : its[i]? = some v := by simpa using hi
    obtain ⟨d, bs, hds, rd⟩ := readsAll_get hr hi'
    obtain ⟨bs', rm⟩ := hm
    have ed := (PySem.Reads.unique (Reads.keeps hk rd) _ _ rm).1
    subst ed
    rw [List.getElem?_map] at hds
    cases hp : ps[i]? with
    | none => rw [hp] at hds; cases hds
    | some p =>
      rw [hp] at hds
      have ep : p = PySem.W.minOf y ys := toD_inj (Option.some.inj hds)
      have hl : i < vs.length := by
        have h1 := (List.getElem?_eq_some_iff.mp hi').1
        rw [rv.length]; exact h1
      have hx := List.getElem?_eq_getElem hl
      obtain ⟨u', hu', ru'⟩ := rv.get hx
      rw [hi'] at hu'
      cases hu'
      exact ⟨_, H, I.kept (t' := tk) hk, ru', q1 y ys i _ e hx (by rw [hp, ep]; rfl)⟩
end
/-- a built-in called with keywords -/
def xCBK (g : List Vl → List Vl → Sto → Out Vl) (a k : XA) : XE' := fun env S => (a env S).bind fun xs S1 => (k env S1).bind fun zs S2 => g xs zs S2
theorem dpPairs {N : Nms} {K : PySem.W.Frag} {m : List Addr} {H : Hp} : ∀ {ps : List (Int × Int)} {us : List V}, Vrs N K m H (ps.map prV) us → DpAll K H us (ps.map PySem.W.Datum.toD)
  | [], _, h => by cases h; exact .nil
  | p :: ps, _, h => by
    rw [List.map_cons] at h
    cases h with
    | cons r rs =>
      cases r with
      | tup h1 h2 =>
        cases h2 with
        | cons a b =>
          cases a
          cases b with
          | cons c d =>
            cases c
            cases d
            exact .cons (.tup (st_of h1) (.cons (.int _) (.cons (.int _) .nil))) (dpPairs rs)
section
variable {N : Nms} {X : Cx} {W : L2.St → XK} {e a b : Expr} {es : List Expr} {kws : List Keyword} {f fk : XA} {fe fa fb : XE'} {p pos : Pos}
theorem se_minD (hc : X.calm = true) (hu : X.A.units + 64 < cLine) (hg : Gl X "min") (hm : X.mg "min" = none) (hv : bootBuiltins "min" = some (.builtin "min")) (ha : SA N X W (e :: es) f) (hk : SK N X W kws fk)
    (he : backTo pos (starEach (e :: es) X.env) = (false, eval e X.env) :: backTo pos (starEach es X.env) := by rfl) (hpl : (backTo pos (starEach (e :: es) X.env)).any (·.1) = false := by rfl)
    (hall : (backToKw pos (keywordEach kws X.env)).all (·.1.isSome) = true := by rfl) (hnone : (backToKw pos (keywordEach kws X.env)).any (·.1.isNone) = false := by rfl) (hks : (backToKw pos (keywordEach kws X.env)).filterMap (·.1) = [Str.ofString "default"] := by rfl) :
    SE N X W (.Call (.Name "min" p) (e :: es) kws pos) (xCBK vMinD f fk) := by
  obtain ⟨ta, p1, s1⟩ := ha.ex
  obtain ⟨tk, p2, s2⟩ := hk.ex
  refine ⟨_, pe_callBK (cr_minD hc hu) hg hm hv p1 p2 (by decide) (by decide) he hpl hall hnone hks, fun m S H env σ Q s er h => s1.step s er h fun xs S1 m1 H1 us e1 sr1 r1 er1 h1 => s2.step sr1 er1 h1 fun zs S2 m2 H2 ws e2 sr2 r2 er2 h2 => ?_⟩
  have r1' := r1.mono e2
  unfold vMinD at h2
  split at h2
  · obtain ⟨u, rfl, ru⟩ := r1'.one
    obtain ⟨w, rfl, rw'⟩ := r2.one
    obtain ⟨a, rfl, hm⟩ := ru.ref'
    split at h2
    · rename_i hS
      obtain ⟨ys, h3, h4⟩ := sr2.lst hm hS
      split at h2
      · rename_i hp
        rw [toPrs_eq hp] at h4
        cases h4
        exact ⟨a, [], [], w, rfl, rfl, sq_of h3, .nil, fun _ => h2.ok sr2 rw', fun _ _ _ _ z => nomatch z⟩
      · rename_i y zs hp
        rw [toPrs_eq hp] at h4
        refine ⟨a, ys, y :: zs, w, rfl, rfl, sq_of h3, dpPairs h4, (fun z => by cases z), fun y' ys' i x q hx hpi => ?_⟩
        cases q
        obtain ⟨v, hv', rv⟩ := h4.get' hx
        rw [List.getElem?_map, hpi] at hv'
        cases hv'
        exact h2.ok sr2 rv
      · exact h2.elim
    · exact h2.elim
  · exact h2.elim
end
/-! ### reversed(list) -/
def itV (j n : Nat) : Itm := ⟨n, fun i S => if i < n then (match S[j]? with
  | some (.lst xs) => match xs[n - 1 - i]? with
    | some x => .yld x S
    | none => .bad
  | _ => .bad) else .stop⟩
def iRev (fe : XE') : En → Sto → Out Itm := fun env S => (fe env S).bind fun x S1 => match x with
  | .ref j => match S1[j]? with
    | some (.lst xs) => .ok (itV j xs.length) S1
    | _ => .bad
  | _ => .bad
section
variable {N : Nms} {X : Cx} {W : L2.St → XK} {tg e a b : Expr} {fe fa fb : XE'} {p pos : Pos}
theorem itr_rev {K : PySem.W.Frag} {m : List Addr} {H : Hp} {j n : Nat} {a : Addr} (hm : m[j]? = some a) : ItR N K m H (itV j n) (Itv K a n) := fun m' S H' i e s => by
  have hm' := e.pre _ _ hm
  show YdR N K m' H' (Itv K a n) i (if i < n then (match S[j]? with
  | some (.lst xs) => match xs[n - 1 - i]? with
    | some x => .yld x S
    | none => .bad
  | _ => .bad) else .stop)
  split
  · rename_i hi
    split
    · rename_i xs hS
      obtain ⟨ys, h1, h2⟩ := s.lst hm' hS
      split
      · rename_i x hx
        obtain ⟨w, h3, h4⟩ := h2.get hx
        refine ⟨⟨hi, ys, w, sq_of h1, h3⟩, fun u H'' hy => ?_⟩
        obtain ⟨rfl, hy⟩ := hy
        have := hy ys (sq_of h1)
        rw [h3] at this
        cases this
        exact ⟨m', Ext.refl, s, h4⟩
      · exact trivial
    · exact trivial
  · rename_i hi
    exact Nat.le_of_not_lt hi
theorem si_rev (hg : Gl X "reversed") (hm : X.mg "reversed" = none) (he : SE N X W e fe) (hs : starEach [e] X.env = (false, eval e X.env) :: starEach [] X.env := by rfl) : SI N X W tg (.Call (.Name "reversed" p) [e] [] pos) (iRev fe) := by
  obtain ⟨t, p, sm⟩ := he.ex
  refine ⟨_, RT.pi_revA hg hm p hs, fun m S H env σ Q s er h => sm.step s er h fun x S1 m1 H1 u e1 sr1 r1 er1 h1 => ?_⟩
  split at h1
  · split at h1
    · rename_i hS
      obtain ⟨a, rfl, hm⟩ := r1.ref'
      obtain ⟨ys, h2, h3⟩ := sr1.lst hm hS
      rw [h3.len] at h1
      exact ⟨a, ys, rfl, .inl ⟨sq_of h2, h1.ok sr1 (itr_rev hm)⟩⟩
    · exact h1.elim
  · exact h1.elim
end
/-! ### xs[::-1] -/
def vRevL (x : Vl) (S : Sto) : Out Vl := match x with
  | .ref j => match S[j]? with
    | some (.lst xs) => .ok (.ref S.length) (S ++ [.lst xs.reverse])
    | _ => .bad
  | _ => .bad
section
variable {N : Nms} {X : Cx} {W : L2.St → XK} {o e f a b : Expr} {fo fe ff fa fb : XE'} {p p1 p2 p3 pos apos cpos : Pos} {k : Nat}
theorem se_revL (he : SE N X W e fe) : SE N X W (.Subscript e (.Slice none none (some (.UnaryOp .USub (.Constant (.int 1) k p1) p2)) p3) pos) (xUn vRevL fe) := by
  obtain ⟨t, p, sm⟩ := he.ex
  refine ⟨_, pe_revL p, fun m S H env σ Q s er h => sm.step s er h fun x S1 m1 H1 u e1 sr1 r1 er1 h1 => ?_⟩
  unfold vRevL at h1
  split at h1
  · split at h1
    · rename_i hS
      obtain ⟨a, rfl, hm⟩ := r1.ref'
      obtain ⟨ys, h2, h3⟩ := sr1.lst hm hS
      exact ⟨a, ys, rfl, sq_of h2, fun l hl => h1.to (Ext.app (Same.new hl)) (sr1.new (Same.new hl) hl upd_same (.lst h3.reverse)) sr1.ref_new⟩
    · exact h1.elim
  · exact h1.elim
end
/-! ### d.setdefault(k, z) -/
def xSetd (o k d : XE') : XE' := fun env S => (o env S).bind fun x S1 => if isDct x S1 = true then (k env S1).bind fun y S2 => (d env S2).bind fun z S3 => match x, toK y with
  | .ref i, some k => match S3[i]? with
    | some (.dk kvs) => if kvs.length < 100000 then (match getK kvs k with
      | some v => .ok v S3
      | none => .ok z (S3.set i (.dk (setK kvs k z)))) else .bad
    | _ => .bad
  | _, _ => .bad
  else .bad
section
variable {N : Nms} {X : Cx} {W : L2.St → XK} {o e f a b : Expr} {fo fe ff fa fb : XE'} {p p1 p2 p3 pos apos cpos : Pos}
theorem se_setd (ho : SE N X W o fo) (he : SE N X W e fe) (hf : SE N X W f ff) (mm : M2 X o "setdefault" apos e f cpos) : SE N X W (.Call (.Attribute o "setdefault" apos) [e, f] [] cpos) (xSetd fo fe ff) := by
  obtain ⟨t0, p0, s0⟩ := ho.ex
  obtain ⟨t1, p1, s1⟩ := he.ex
  obtain ⟨t2, p2, s2⟩ := hf.ex
  refine ⟨_, pe_dsetd p0 p1 p2 mm, fun m S H env σ Q s er h => s0.step s er h fun x S1 m1 H1 u e1 sr1 r1 er1 h1 => ?_⟩
  split at h1
  · rename_i hD
    obtain ⟨i, a, rfl, rfl, hm, hI⟩ := isDct_ok sr1 r1 hD
    refine ⟨a, rfl, hI, s1.step sr1 er1 h1 fun y S2 m2 H2 uy e2 sr2 r2 er2 h2 => ?_⟩
    refine s2.step sr2 er2 h2 fun z S3 m3 H3 uz e3 sr3 r3 er3 h3 => ?_
    have hm3 := e3.pre _ _ (e2.pre _ _ hm)
    split at h3
    · rename_i i' k q1 q2
      cases q1
      split at h3
      · rename_i kvs hS
        obtain ⟨ys, h4, h5⟩ := sr3.dk hm3 hS
        split at h3
        · rename_i hl
          refine ⟨ys, k, h4, toK_kV q2 (r2.mono e3), ?_, fun v hv => ?_, fun hn => ?_⟩
          · rw [← h5.len, sizeLine_eq]; omega
          · split at h3
            · rename_i w hw
              obtain ⟨u, hu, ru⟩ := h5.some hw
              rw [hv] at hu
              cases hu
              exact h3.ok sr3 ru
            · rename_i hw
              rw [h5.none hw] at hv
              cases hv
          · split at h3
            · rename_i w hw
              obtain ⟨u, hu, ru⟩ := h5.some hw
              rw [hn] at hu
              cases hu
            · have ee : Ext X.K m3 H3 m3 (upd H3 a (.dK (putK ys k uz))) := Ext.upd h4 trivial
              exact h3.to ee (sr3.set hm3 h4 trivial (.dk (h5.put r3))) (r3.mono ee)
        · exact h3.elim
      · exact h3.elim
    · exact h3.elim
  · exact h1.elim
end
/-! ### list(range(..)) -/
def rgL (a b : Int) : List Vl := (List.range (b - a).toNat).map fun i => .int (a + (i : Nat))
def vLR (x y : Vl) (S : Sto) : Out Vl := match x, y with
  | .int i, .int j => if 0 ≤ i ∧ i ≤ 16777216 ∧ 0 ≤ j ∧ j ≤ 16777216 then .ok (.ref S.length) (S ++ [.lst (rgL i j)]) else .bad
  | _, _ => .bad
section
variable {N : Nms} {X : Cx} {W : L2.St → XK} {o e f a b : Expr} {fo fe ff fa fb : XE'} {p p' p1 p2 p3 pos apos cpos : Pos}
theorem rgL_ok {K : PySem.W.Frag} {m : List Addr} {H : Hp} (i j : Int) : Vrs N K m H (rgL i j) (rgV i j) := by
  unfold rgL rgV
  generalize (j - i).toNat = n
  generalize List.range n = l
  induction l with
  | nil => exact .nil
  | cons x xs ih => exact .cons (.int _) ih
theorem se_lr1 (hc : X.calm = true) (hl : Gl X "list") (hml : X.mg "list" = none) (hg : Gl X "range") (hm : X.mg "range" = none) (ha : SE N X W a fa) (na : starEach [a] X.env = (false, eval a X.env) :: starEach [] X.env := by rfl)
    (nb : starEach [.Call (.Name "range" p) [a] [] pos] X.env = (false, eval (.Call (.Name "range" p) [a] [] pos) X.env) :: starEach [] X.env := by rfl) : SE N X W (.Call (.Name "list" p') [.Call (.Name "range" p) [a] [] pos] [] cpos) (xUn (vLR (.int 0)) fa) := by
  obtain ⟨t, p, sm⟩ := ha.ex
  refine ⟨_, pe_listRg hc hl hml (prg_1 hg hm p na) nb, fun m S H env σ Q s er h => sm.step s er h fun x S1 m1 H1 u e1 sr1 r1 er1 h1 => ?_⟩
  unfold vLR at h1
  split at h1
  · rename_i i j q
    cases q
    cases r1
    split at h1
    · rename_i hb
      exact ⟨j, rfl, RgOk.of_le hb.1 hb.2.2.2 hb.2.1 hb.2.2.1, fun l hl => h1.to (Ext.app (Same.new hl)) (sr1.new (Same.new hl) hl upd_same (.lst (rgL_ok _ _))) sr1.ref_new⟩
    · exact h1.elim
  · exact h1.elim
theorem se_lr2 (hc : X.calm = true) (hl : Gl X "list") (hml : X.mg "list" = none) (hg : Gl X "range") (hm : X.mg "range" = none) (ha : SE N X W a fa) (hb : SE N X W b fb) (na : starEach [a, b] X.env = (false, eval a X.env) :: starEach [b] X.env := by rfl)
    (nb : starEach [b] X.env = (false, eval b X.env) :: starEach [] X.env := by rfl) (hp : (backTo pos (starEach [b] X.env)).any (·.1) = false := by rfl)
    (nc : starEach [.Call (.Name "range" p) [a, b] [] pos] X.env = (false, eval (.Call (.Name "range" p) [a, b] [] pos) X.env) :: starEach [] X.env := by rfl) : SE N X W (.Call (.Name "list" p') [.Call (.Name "range" p) [a, b] [] pos] [] cpos) (xOp vLR fa fb) := by
  obtain ⟨t, p, sm⟩ := ha.ex
  obtain ⟨t', p', sm'⟩ := hb.ex
  refine ⟨_, pe_listRg hc hl hml (prg_2 hg hm p p' na nb hp) nc, fun m S H env σ Q s er h => sm.step s er h fun x S1 m1 H1 u e1 sr1 r1 er1 h1 => sm'.step sr1 er1 h1 fun y S2 m2 H2 w e2 sr2 r2 er2 h2 => ?_⟩
  unfold vLR at h2
  split at h2
  · rename_i i j
    cases r1
    cases r2
    split at h2
    · rename_i hb
      exact ⟨i, j, rfl, rfl, RgOk.of_le hb.1 hb.2.2.2 hb.2.1 hb.2.2.1, fun l hl => h2.to (Ext.app (Same.new hl)) (sr2.new (Same.new hl) hl upd_same (.lst (rgL_ok _ _))) sr2.ref_new⟩
    · exact h2.elim
  · exact h2.elim
end
/-! ### dict(list of pairs) -/
def toKv : Vl → Option (Key × Vl)
  | .tup [a, b] => match toK a with
    | some k => some (k, b)
    | none => none
  | _ => none
def vDictP : List Vl → Sto → Out Vl
  | [.ref j], S => match S[j]? with
    | some (.lst xs) => match allD toKv xs with
      | some kvs => .ok (.ref S.length) (S ++ [.dk (mergeL [] kvs)])
      | none => .bad
    | _ => .bad
  | _, _ => .bad
section
variable {N : Nms} {X : Cx}
theorem kvs_ok {K : PySem.W.Frag} {m : List Addr} {H : Hp} : ∀ {xs : List Vl} {us : List V} {kvs : List (Key × Vl)}, allD toKv xs = some kvs → Vrs N K m H xs us → ∃ ps ws, us = ps.map V.ref ∧ Paired (fun p kv => SqT K H p [kV kv.1, kv.2]) ps ws ∧ KR N K m H kvs ws
  | [], _, _, e, .nil => by cases e; exact ⟨[], [], rfl, .nil, .nil⟩
  | x :: xs, _, kvs, e, .cons r rs => by
    unfold allD at e
    split at e
    · rename_i d ds e1 e2
      cases e
      obtain ⟨ps, ws, rfl, hp, kr⟩ := kvs_ok e2 rs
      unfold toKv at e1
      split at e1
      · split at e1
        · rename_i k hk
          cases e1
          cases r with
          | tup h1 h2 =>
            cases h2 with
            | cons ra rb =>
              cases rb with
              | cons rb rn =>
                cases rn
                have := toK_kV hk ra
                subst this
                exact ⟨_ :: ps, (k, _) :: ws, rfl, .cons (st_of h1) hp, .cons rb kr⟩
        · cases e1
      · cases e1
    · cases e
theorem cm_dictP (hc : X.calm = true) : CallM N X (.type "dict") vDictP := by
  refine ⟨_, call_dictP hc, fun m S H xs us Q E s r h => ?_⟩
  unfold vDictP at h
  split at h
  · obtain ⟨u, rfl, ru⟩ := r.one
    obtain ⟨a, rfl, h1⟩ := ru.ref'
    split at h
    · rename_i hS
      split at h
      · rename_i kvs hk
        obtain ⟨ys, h2, h3⟩ := s.lst h1 hS
        obtain ⟨ps, ws, rfl, hp, kr⟩ := kvs_ok hk h3
        exact ⟨a, ps, ws, rfl, sq_of h2, hp, fun l hl => h.to (Ext.app (Same.new hl)) (s.new (Same.new hl) hl upd_same (.dk (merge_ok kr .nil))) s.ref_new⟩
      · exact h.elim
    · exact h.elim
  · exact h.elim
end
/-! ### sorted(list of pairs) -/
def insP (x : Int × Int) : List (Int × Int) → List (Int × Int)
  | [] => [x]
  | y :: l => if lexLt y x = true then y :: insP x l else x :: y :: l
def sortP : List (Int × Int) → List (Int × Int)
  | [] => []
  | x :: l => insP x (sortP l)
theorem lexLt_iff {p q : Int × Int} : lexLt p q = true ↔ p.1 < q.1 ∨ (p.1 = q.1 ∧ p.2 < q.2) := by
  unfold lexLt
  split
  · rename_i h
    simp only [decide_eq_true_eq]
    omega
  · simp only [decide_eq_true_eq]
    omega
theorem lexLt_no {p q : Int × Int} : lexLt p q = false ↔ q.1 < p.1 ∨ (q.1 = p.1 ∧ q.2 ≤ p.2) := by
  rw [← Bool.not_eq_true, lexLt_iff]
  omega
theorem lex_anti {p q : Int × Int} (h1 : lexLt p q = false) (h2 : lexLt q p = false) : p = q := by
  rw [lexLt_no] at h1 h2
  exact Prod.ext (by omega) (by omega)
theorem insP_perm (x : Int × Int) : ∀ l, (insP x l).Perm (x :: l)
  | [] => List.Perm.refl _
  | y :: l => by
    unfold insP
    split
    · exact ((insP_perm x l).cons y).trans (List.Perm.swap x y l)
    · exact List.Perm.refl _
theorem sortP_perm : ∀ l, (sortP l).Perm l
  | [] => List.Perm.refl _
  | x :: l => (insP_perm x _).trans ((sortP_perm l).cons x)
abbrev SrtL (l : List (Int × Int)) : Prop := l.Pairwise fun x y => lexLt y x = false
theorem insP_sorted (x : Int × Int) : ∀ {l}, SrtL l → SrtL (insP x l)
  | [], _ => List.pairwise_singleton _ _
  | y :: l, h => by
    obtain ⟨h1, h2⟩ := List.pairwise_cons.mp h
    unfold insP
    split
    · rename_i q
      refine List.pairwise_cons.mpr ⟨fun z hz => ?_, insP_sorted x h2⟩
      rcases List.mem_cons.mp ((insP_perm x l).mem_iff.mp hz) with rfl | hz
      · rw [lexLt_no]; rw [lexLt_iff] at q; omega
      · exact h1 z hz
    · rename_i q
      have q' : lexLt y x = false := by simpa using q
      refine List.pairwise_cons.mpr ⟨fun z hz => ?_, h⟩
      rcases List.mem_cons.mp hz with rfl | hz
      · exact q'
      · have := h1 z hz
        rw [lexLt_no] at this q' ⊢
        omega
theorem sortP_sorted : ∀ l, SrtL (sortP l)
  | [] => List.Pairwise.nil
  | x :: l => insP_sorted x (sortP_sorted l)
theorem srtL_one : ∀ {a b : List (Int × Int)}, a.Perm b → SrtL a → SrtL b → a = b
  | [], b, p, _, _ => (List.Perm.nil_eq p)
  | x :: a, [], p, _, _ => (by simpa using p.length_eq)
  | x :: a, y :: b, p, ha, hb => by
    obtain ⟨a1, a2⟩ := List.pairwise_cons.mp ha
    obtain ⟨b1, b2⟩ := List.pairwise_cons.mp hb
    have e : x = y := by
      have hx : x ∈ y :: b := p.mem_iff.mp List.mem_cons_self
      have hy : y ∈ x :: a := p.mem_iff.mpr List.mem_cons_self
      rcases List.mem_cons.mp hx with e | hx
      · exact e
      · rcases List.mem_cons.mp hy with e | hy
        · exact e.symm
        · exact lex_anti (b1 x hx) (a1 y hy)
    subst e
    rw [srtL_one (List.Perm.cons_inv p) a2 b2]
def vSortP : List Vl → Sto → Out Vl
  | [.ref j], S => match S[j]? with
    | some (.lst xs) => match toPrs xs with
      | some ps => .ok (.ref S.length) (S ++ [.lst ((sortP ps).map prV)])
      | none => .bad
    | _ => .bad
  | _, _ => .bad
def kH (H : Hp) : V → Int × Int
  | .ref t => match H t with
    | some (.tup [.int a, .int b]) => (a, b)
    | _ => (0, 0)
  | _ => (0, 0)
section
variable {N : Nms} {X : Cx}
theorem kH_ok {K : PySem.W.Frag} {m : List Addr} {H : Hp} {p : Int × Int} {u : V} (r : Vr N K m H (prV p) u) : kH H u = p ∧ ∃ t, u = V.ref t ∧ H t = some (.tup [.int p.1, .int p.2]) := by
  cases r with
  | tup h1 h2 =>
    cases h2 with
    | cons a b =>
      cases a
      cases b with
      | cons c d =>
        cases c
        cases d
        refine ⟨?_, _, rfl, h1⟩
        unfold kH
        dsimp only
        rw [h1]
theorem kH_all {K : PySem.W.Frag} {m : List Addr} {H : Hp} : ∀ {ps : List (Int × Int)} {us : List V}, Vrs N K m H (ps.map prV) us → us.map (kH H) = ps ∧ ∀ x ∈ us, Vr N K m H (prV (kH H x)) x
  | [], _, h => by cases h; exact ⟨rfl, fun _ z => nomatch z⟩
  | p :: ps, _, h => by
    rw [List.map_cons] at h
    cases h with
    | cons r rs =>
      obtain ⟨e1, e2⟩ := kH_all rs
      refine ⟨by rw [List.map_cons, e1, (kH_ok r).1], fun x hx => ?_⟩
      rcases List.mem_cons.mp hx with rfl | hx
      · rw [(kH_ok r).1]; exact r
      · exact e2 x hx
theorem vrs_kH {K : PySem.W.Frag} {m : List Addr} {H : Hp} : ∀ {us : List V}, (∀ x ∈ us, Vr N K m H (prV (kH H x)) x) → Vrs N K m H ((us.map (kH H)).map prV) us
  | [], _ => .nil
  | u :: us, h => .cons (h u List.mem_cons_self) (vrs_kH fun x hx => h x (List.mem_cons_of_mem _ hx))
theorem cm_sortP : CallM N X (.builtin "sorted") vSortP := by
  refine ⟨_, cr_sortedPO, fun m S H xs us Q E s r h => ?_⟩
  unfold vSortP at h
  split at h
  · obtain ⟨u, rfl, ru⟩ := r.one
    obtain ⟨a, rfl, h1⟩ := ru.ref'
    split at h
    · rename_i hS
      split at h
      · rename_i ps hk
        obtain ⟨ys, h2, h3⟩ := s.lst h1 hS
        rw [toPrs_eq hk] at h3
        obtain ⟨e1, e2⟩ := kH_all h3
        refine ⟨a, ys, kH H, rfl, sq_of h2, fun x hx => ?_, fun zs l hs hb hl => ?_⟩
        · obtain ⟨t, rfl, ht⟩ := (kH_ok (e2 x hx)).2
          exact ⟨t, rfl, ht⟩
        · have hz : zs.map (kH H) = sortP ps := by
            refine srtL_one ((hb.perm.map _).trans (by rw [e1]; exact (sortP_perm ps).symm)) ?_ (sortP_sorted ps)
            refine List.pairwise_map.mpr (hs.imp fun {x y} q => ?_)
            exact q
          have hv : Vrs N X.K m H ((sortP ps).map prV) zs := by
            rw [← hz]
            exact vrs_kH fun x hx => e2 x (hb.perm.mem_iff.mp hx)
          exact h.to (Ext.app (Same.new hl)) (s.new (Same.new hl) hl upd_same (.lst hv)) s.ref_new
      · exact h.elim
    · exact h.elim
  · exact h.elim
end
/-! ### min(list of ints) -/
def minI (y : Int) (ys : List Int) : Int := ys.foldl (fun a y => if decide (y < a) = true then y else a) y
def rMin1 (K : PySem.W.Frag) : List V → Hp → VK → Prop := fun vs H Q => ∃ (a : Addr) (y : Int) (ys : List Int), vs = [.ref a] ∧ SqL K H a ((y :: ys).map V.int) ∧ Q (.int (minI y ys)) H
theorem dpInts {K : PySem.W.Frag} {H : Hp} : ∀ ns : List Int, DpAll K H (ns.map V.int) (ns.map PySem.W.Datum.toD)
  | [] => .nil
  | n :: ns => .cons (.int n) (dpInts ns)
def vMin1 : List Vl → Sto → Out Vl
  | [.ref j], S => match S[j]? with
    | some (.lst xs) => match toInts xs with
      | some (y :: ys) => .ok (.int (minI y ys)) S
      | _ => .bad
    | _ => .bad
  | _, _ => .bad
section
variable {N : Nms} {X : Cx}
theorem cr_min1 (hc : X.calm = true) (hu : X.A.units + 64 < cLine) : CallR X (.builtin "min") (rMin1 X.K) := by
  intro pins s σ H xs us Q I r1 h
  obtain ⟨a, y, ys, rfl, hq, q⟩ := h
  obtain ⟨u, rfl, ru⟩ := vals1 r1
  cases ru
  obtain ⟨its, rv, pl, hz⟩ := I.list hq
  obtain ⟨as, hr⟩ := Dp.readsAll I _ _ _ (dpInts (y :: ys)) rv
  refine PySem.W.min_list_datum (α := Int) (x := y) (xs := ys) (I.ok.hd hc) pl.isList ⟨as, by simpa using hr⟩ ?_ fun i v h' tk hi hm hk => ?_
  · exact Nat.lt_of_le_of_lt (by show X.A.units + 1 + PySem.W.Datum.depth Int ≤ X.A.units + 64; have : PySem.W.Datum.depth Int ≤ 60 := by decide
                                 omega) hu
  · obtain ⟨bs, rm⟩ := hm
    have e : PySem.W.minOf y ys = minI y ys := rfl
    rw [e] at rm
    cases rm with
    | int _ t => exact ⟨.int (minI y ys), H, I.kept (t' := tk) hk, ⟨t, rfl⟩, q⟩
theorem cm_min1 (hc : X.calm = true) (hu : X.A.units + 64 < cLine) : CallM N X (.builtin "min") vMin1 := by
  refine ⟨_, cr_min1 hc hu, fun m S H xs us Q E s r h => ?_⟩
  unfold vMin1 at h
  split at h
  · obtain ⟨u, rfl, ru⟩ := r.one
    obtain ⟨a, rfl, h1⟩ := ru.ref'
    split at h
    · rename_i hS
      split at h
      · rename_i y ys hn
        obtain ⟨zs, h2, h3⟩ := s.lst h1 hS
        rw [toInts_eq hn] at h3
        rw [h3.ints] at h2
        exact ⟨a, y, ys, rfl, sq_of h2, h.ok s (.int _)⟩
      · exact h.elim
    · exact h.elim
  · exact h.elim
end
/-- the dict that a name holds -/
def fdV (i : Nat) : En → Sto → Option Nat := fun env _ => match env[i]? with
  | some (some (.ref d)) => some d
  | _ => none
/-! ### xs += ys, long -/
def vIaddW : Vl → Vl → Sto → Out Vl
  | .ref i, .ref j, S => match S[i]?, S[j]? with
    | some (.lst xs), some (.lst ys) => if xs.length + ys.length ≤ 16000000 then .ok (.ref i) (S.set i (.lst (xs ++ ys))) else .bad
    | _, _ => .bad
  | _, _, _ => .bad
theorem opm_iaddW {N : Nms} {X : Cx} : OpM N X (inplaceOp .Add) vIaddW := by
  refine ⟨_, iop_ext, fun m S H x y u w Q E s rx ry h => ?_⟩
  unfold vIaddW at h
  split at h
  · split at h
    · rename_i i j xs ys q1 q2
      split at h
      · rename_i q
        have rx0 := rx
        obtain ⟨a, rfl, h1⟩ := rx.ref'
        obtain ⟨b, rfl, h2⟩ := ry.ref'
        obtain ⟨us, h3, h4⟩ := s.lst h1 q1
        obtain ⟨ws, h5, h6⟩ := s.lst h2 q2
        have ex : Ext X.K m H m (upd H a (.lst (us ++ ws))) := Ext.upd h3 trivial
        exact ⟨a, b, us, ws, rfl, rfl, h3, h5, by rw [← h4.len, ← h6.len, sizeLine_eq]; omega, h.to ex (s.set h1 h3 trivial (.lst (h4.append h6))) (rx0.mono ex)⟩
      · exact h.elim
    · exact h.elim
  · exact h.elim
/-! ### xs.append(y), long -/
def mAppendW (x : Vl) (xs : List Vl) (S : Sto) : Out Vl := match x, xs with
  | .ref i, [y] => match S[i]? with
    | some (.lst l) => if l.length < 16000000 then .ok .non (S.set i (.lst (l ++ [y]))) else .bad
    | _ => .bad
  | _, _ => .bad
theorem mm_appendW {N : Nms} {X : Cx} : MtMM N X "list.append" mAppendW := by
  refine ⟨_, mt_append, fun m S H x xs u us Q E s rx rs h => ?_⟩
  unfold mAppendW at h
  split at h
  · obtain ⟨a, rfl, hm⟩ := rx.ref'
    obtain ⟨w, rfl, rw'⟩ := rs.one
    split at h
    · rename_i l hS
      split at h
      · rename_i hl
        obtain ⟨ys, h1, h2⟩ := s.lst hm hS
        exact ⟨a, ys, w, rfl, rfl, h1, by rw [← h2.len, sizeLine_eq]; omega, h.to (Ext.upd h1 trivial) (s.set hm h1 trivial (.lst (h2.append (.cons rw' .nil)))) .non⟩
      · exact h.elim
    · exact h.elim
  · exact h.elim
end Nt

namespace Nt
open PySem PySem.Spec PyProof.Rows L2 Evl
/-! ### evaluation, one thing after another -/
section
variable {env e : En} {S S1 : Sto} {a b c o r : XE'} {f g : ZS} {t u : XT} {aa ak : XA} {ab : XB} {gm gm2 : GM} {gs : GMs} {x y z v : Vl} {xs ys zs : List Vl} {i j k n np nk : Nat} {q : Option Nat} {cs : List Nat} {bl : Bool} {og : Vl → Vl → Sto → Out Vl} {ug : Vl → Sto → Out Vl} {cg : List Vl → Sto → Out Vl} {gL : List Vl → List Vl → List Vl} {tb : List (Nat × MT)} {M : MT} {fs : List (Nat × Vl)}
/- statements -/
def sq (o : Out Fl) (g : ZS) : Out Fl := match o with
  | .ok (.nx e) S => g e S
  | o => o
theorem zSeq_e : zSeq f g env S = sq (f env S) g := rfl
theorem sq_nx : sq (.ok (.nx e) S) g = g e S := rfl
theorem sq_rt : sq (.ok (.rt v) S) g = .ok (.rt v) S := rfl
theorem sq_bk : sq (.ok (.bk e) S) g = .ok (.bk e) S := rfl
theorem sq_ct : sq (.ok (.ct e) S) g = .ok (.ct e) S := rfl
theorem sq_er : sq (.ok (.er k q e) S) g = .ok (.er k q e) S := rfl
theorem sq_bad : sq .bad g = .bad := rfl
theorem zNil_e : zNil env S = .ok (.nx env) S := rfl
theorem zBrk_e : zBrk env S = .ok (.bk env) S := rfl
theorem zCnt_e : zCnt env S = .ok (.ct env) S := rfl
theorem zRaise_e : zRaise k env S = .ok (.er k none env) S := rfl
def kNx (o : Out En) (env : En) : Out Fl := o.bindS env fun e S => .ok (.nx e) S
theorem kNx_ok : kNx (.ok e S) env = .ok (.nx e) S := rfl
theorem kNx_err : kNx (.err k q S) env = .ok (.er k q env) S := rfl
def kAsg (o : Out Vl) (env : En) (gm : GM) : Out Fl := o.bindS env fun v S => kNx (gm v env S) env
theorem zAsg_e : zAsg a gm env S = kAsg (a env S) env gm := rfl
theorem kAsg_ok : kAsg (.ok v S) env gm = kNx (gm v env S) env := rfl
theorem kAsg_err : kAsg (.err k q S) env gm = .ok (.er k q env) S := rfl
def kDrop (o : Out Vl) (env : En) : Out Fl := o.bindS env fun _ S => .ok (.nx env) S
theorem zDrop_e : zDrop a env S = kDrop (a env S) env := rfl
theorem kDrop_ok : kDrop (.ok v S) env = .ok (.nx env) S := rfl
theorem kDrop_err : kDrop (.err k q S) env = .ok (.er k q env) S := rfl
def kRet (o : Out Vl) (env : En) : Out Fl := o.bindS env fun v S => .ok (.rt v) S
theorem zRet_e : zRet a env S = kRet (a env S) env := rfl
theorem kRet_ok : kRet (.ok v S) env = .ok (.rt v) S := rfl
theorem kRet_err : kRet (.err k q S) env = .ok (.er k q env) S := rfl
def kIf (o : Out Bool) (env : En) (f g : ZS) : Out Fl := o.bindS env fun b S => if b = true then f env S else g env S
theorem zIf_e : zIf t f g env S = kIf (t env S) env f g := rfl
theorem kIf_t : kIf (.ok true S) env f g = f env S := rfl
theorem kIf_f : kIf (.ok false S) env f g = g env S := rfl
theorem kIf_err : kIf (.err k q S) env f g = .ok (.er k q env) S := rfl
def kAug (o : Out Vl) (env : En) (i : Nat) (x : Vl) (og : Vl → Vl → Sto → Out Vl) : Out Fl := o.bindS env fun y S1 => (og x y S1).bindS env fun z S2 => .ok (.nx (env.set i (some z))) S2
def kAugV (x? : Option (Option Vl)) (i : Nat) (a : XE') (og : Vl → Vl → Sto → Out Vl) (env : En) (S : Sto) : Out Fl := match x? with
  | some (some x) => kAug (a env S) env i x og
  | _ => .bad
theorem zAug_e : zAug i a og env S = kAugV (env[i]?) i a og env S := rfl
theorem kAugV_s : kAugV (some (some x)) i a og env S = kAug (a env S) env i x og := rfl
def kSet (o : Out Vl) (env : En) (i : Nat) : Out Fl := o.bindS env fun z S2 => .ok (.nx (env.set i (some z))) S2
theorem kAug_ok : kAug (.ok y S) env i x og = kSet (og x y S) env i := rfl
theorem kSet_ok : kSet (.ok y S) env i = .ok (.nx (env.set i (some y))) S := rfl
def kPar1 (o : Out Vl) (env : En) (i j : Nat) (b : XE') : Out Fl := o.bindS env fun v S1 => (b env S1).bindS env fun w S2 => .ok (.nx ((env.set i (some v)).set j (some w))) S2
def kPar2 (o : Out Vl) (env : En) (i j : Nat) (v : Vl) : Out Fl := o.bindS env fun w S2 => .ok (.nx ((env.set i (some v)).set j (some w))) S2
theorem zPar_e : zPar i j a b env S = kPar1 (a env S) env i j b := rfl
theorem kPar1_ok : kPar1 (.ok v S) env i j b = kPar2 (b env S) env i j v := rfl
theorem kPar2_ok : kPar2 (.ok x S) env i j v = .ok (.nx ((env.set i (some v)).set j (some x))) S := rfl
theorem runB0_e {body : ZS} : runB0 n body xs S = (match body (enter n xs) S with
  | .ok (.nx _) S' => .ok .non S'
  | .ok (.rt v) S' => .ok v S'
  | _ => .bad) := rfl
def fin0 (o : Out Fl) : Out Vl := match o with
  | .ok (.nx _) S' => .ok .non S'
  | .ok (.rt v) S' => .ok v S'
  | _ => .bad
theorem run0_e {body : ZS} : runB0 n body xs S = fin0 (body (enter n xs) S) := rfl
theorem fin0_nx : fin0 (.ok (.nx e) S) = .ok .non S := rfl
theorem fin0_rt : fin0 (.ok (.rt v) S) = .ok v S := rfl
def finX (o : Out Fl) : Out Vl := match o with
  | .ok (.nx _) S' => .ok .non S'
  | .ok (.rt v) S' => .ok v S'
  | .ok (.er c x _) S' => .err c x S'
  | _ => .bad
theorem runX_e {body : ZS} : runBX n body xs S = finX (body (enter n xs) S) := rfl
theorem finX_nx : finX (.ok (.nx e) S) = .ok .non S := rfl
theorem finX_rt : finX (.ok (.rt v) S) = .ok v S := rfl
theorem finX_er : finX (.ok (.er k q e) S) = .err k q S := rfl
/- targets -/
theorem gmName_e : gmName i v env S = .ok (env.set i (some v)) S := rfl
theorem gmTup_t : gmTup n gs (.tup xs) env S = if xs.length = n then gs xs env S else .bad := rfl
theorem gmTup_k : gmTup n gs (.ktp xs) env S = if xs.length = n then gs xs env S else .bad := rfl
def kTL (o? : Option Ob) (n : Nat) (gs : GMs) (env : En) (S : Sto) : Out En := match o? with
  | some (.lst xs) => if xs.length = n then gs xs env S else .bad
  | _ => .bad
theorem gmTup_l : gmTup n gs (.ref i) env S = kTL (S[i]?) n gs env S := rfl
theorem kTL_s : kTL (some (.lst xs)) n gs env S = if xs.length = n then gs xs env S else .bad := rfl
theorem gmsNil_e : gmsNil [] env S = .ok env S := rfl
def kG (o : Out En) (gs : GMs) (xs : List Vl) : Out En := o.bind fun e S1 => gs xs e S1
theorem gmsCons_e : gmsCons gm gs (x :: xs) env S = kG (gm x env S) gs xs := rfl
theorem kG_ok : kG (.ok e S) gs xs = gs xs e S := rfl
def kG1 (o : Out En) (gm : GM) (x : Vl) : Out En := o.bind fun e S1 => gm x e S1
theorem kG1_ok : kG1 (.ok e S) gm x = gm x e S := rfl
theorem gmStar_t : gmStar1 gm gm2 (.tup (x :: xs)) env S = kG1 (gm x env (S ++ [.lst xs])) gm2 (.ref S.length) := rfl
theorem gmStar_k : gmStar1 gm gm2 (.ktp (x :: xs)) env S = kG1 (gm x env (S ++ [.lst xs])) gm2 (.ref S.length) := rfl
def kSub1 (o : Out Vl) (env : En) (i : XE') (sg : Vl → Vl → Vl → Sto → Out Unit) (v : Vl) : Out En := o.bind fun ov S1 => (i env S1).bind fun iv S2 => (sg ov iv v S2).bind fun _ S3 => .ok env S3
def kSub2 (o : Out Vl) (env : En) (ov : Vl) (sg : Vl → Vl → Vl → Sto → Out Unit) (v : Vl) : Out En := o.bind fun iv S2 => (sg ov iv v S2).bind fun _ S3 => .ok env S3
def kSub3 (o : Out Unit) (env : En) : Out En := o.bind fun _ S3 => .ok env S3
theorem gmSub_e {sg : Vl → Vl → Vl → Sto → Out Unit} : gmSub a b sg v env S = kSub1 (a env S) env b sg v := rfl
theorem kSub1_ok {sg : Vl → Vl → Vl → Sto → Out Unit} : kSub1 (.ok x S) env b sg v = kSub2 (b env S) env x sg v := rfl
theorem kSub2_ok {sg : Vl → Vl → Vl → Sto → Out Unit} : kSub2 (.ok y S) env x sg v = kSub3 (sg x y v S) env := rfl
theorem kSub3_ok : kSub3 (.ok () S) env = .ok env S := rfl
def kGF1 (o : Out Vl) (env : En) (k : Nat) (cs : List Nat) (v : Vl) : Out En := o.bind fun ov S1 => match ov with
  | .ref i => match S1[i]? with
    | some (.ins c fs) => if cs.contains c = true ∧ fs.length < 1000 then .ok env (S1.set i (.ins c (putL k v fs))) else .bad
    | _ => .bad
  | _ => .bad
theorem gmFld_e : gmFld k cs o v env S = kGF1 (o env S) env k cs v := rfl
def kGF2 (o? : Option Ob) (i : Nat) (env : En) (k : Nat) (cs : List Nat) (v : Vl) (S : Sto) : Out En := match o? with
  | some (.ins c fs) => if cs.contains c = true ∧ fs.length < 1000 then .ok env (S.set i (.ins c (putL k v fs))) else .bad
  | _ => .bad
theorem kGF1_ok : kGF1 (.ok (.ref i) S) env k cs v = kGF2 (S[i]?) i env k cs v S := rfl
theorem kGF2_s {c' : Nat} : kGF2 (some (.ins c' fs)) i env k cs v S = if cs.contains c' = true ∧ fs.length < 1000 then .ok env (S.set i (.ins c' (putL k v fs))) else .bad := rfl
/- expressions -/
def kVar (x? : Option (Option Vl)) (S : Sto) : Out Vl := match x? with
  | some (some x) => .ok x S
  | _ => .bad
theorem xVar_e : xVar i env S = kVar (env[i]?) S := rfl
theorem kVar_s : kVar (some (some x)) S = .ok x S := rfl
theorem xC_e : xC v env S = .ok v S := rfl
def kOp1 (o : Out Vl) (env : En) (b : XE') (og : Vl → Vl → Sto → Out Vl) : Out Vl := o.bind fun x S1 => (b env S1).bind fun y S2 => og x y S2
def kOp2 (o : Out Vl) (x : Vl) (og : Vl → Vl → Sto → Out Vl) : Out Vl := o.bind fun y S2 => og x y S2
theorem xOp_e : xOp og a b env S = kOp1 (a env S) env b og := rfl
theorem kOp1_ok : kOp1 (.ok x S) env b og = kOp2 (b env S) x og := rfl
theorem kOp1_err : kOp1 (.err k q S) env b og = .err k q S := rfl
theorem kOp2_ok : kOp2 (.ok y S) x og = og x y S := rfl
theorem kOp2_err : kOp2 (.err k q S) x og = .err k q S := rfl
def kUn (o : Out Vl) (ug : Vl → Sto → Out Vl) : Out Vl := o.bind fun x S => ug x S
theorem xUn_e : xUn ug a env S = kUn (a env S) ug := rfl
theorem kUn_ok : kUn (.ok x S) ug = ug x S := rfl
theorem aNil_e : aNil env S = .ok [] S := rfl
def kA1 (o : Out Vl) (env : En) (r : XA) : Out (List Vl) := o.bind fun x S1 => (r env S1).bind fun xs S2 => .ok (x :: xs) S2
def kA2 (o : Out (List Vl)) (x : Vl) : Out (List Vl) := o.bind fun xs S2 => .ok (x :: xs) S2
theorem aCons_e : aCons a aa env S = kA1 (a env S) env aa := rfl
theorem kA1_ok : kA1 (.ok x S) env aa = kA2 (aa env S) x := rfl
theorem kA1_err : kA1 (.err k q S) env aa = .err k q S := rfl
theorem kA2_ok : kA2 (.ok xs S) x = .ok (x :: xs) S := rfl
theorem kA2_err : kA2 (.err k q S) x = .err k q S := rfl
def kTp (o : Out (List Vl)) : Out Vl := o.bind fun xs S1 => if xs.length ≤ 100000 then .ok (.tup xs) S1 else .bad
theorem xTup_e : xTup aa env S = kTp (aa env S) := rfl
theorem kTp_ok (h : xs.length ≤ 100000) : kTp (.ok xs S) = .ok (.tup xs) S := by
  show (if _ then _ else _) = _
  rw [if_pos h]
theorem kTp_err : kTp (.err k q S) = .err k q S := rfl
def kLst (o : Out (List Vl)) : Out Vl := o.bind fun xs S1 => if xs.length ≤ 100000 then .ok (.ref S1.length) (S1 ++ [.lst xs]) else .bad
theorem xLst_e : xLst aa env S = kLst (aa env S) := rfl
theorem kLst_ok (h : xs.length ≤ 100000) : kLst (.ok xs S) = .ok (.ref S.length) (S ++ [.lst xs]) := by
  show (if _ then _ else _) = _
  rw [if_pos h]
theorem kLst_err : kLst (.err k q S) = .err k q S := rfl
def kCB (o : Out (List Vl)) (cg : List Vl → Sto → Out Vl) : Out Vl := o.bind fun xs S1 => cg xs S1
theorem xCB_e : xCB cg aa env S = kCB (aa env S) cg := rfl
theorem kCB_ok : kCB (.ok xs S) cg = cg xs S := rfl
theorem kCB_err : kCB (.err k q S) cg = .err k q S := rfl
def kB (o : Out Vl) : Out Bool := o.bind toB
theorem yCmp_e : yCmp og a b env S = kB (kOp1 (a env S) env b og) := rfl
theorem yChain_e {og' : Vl → Vl → Sto → Out Vl} : yChain og og' a b c env S = kB (xChain og og' a b c env S) := rfl
theorem kB_ok : kB (.ok (.bl bl) S) = .ok bl S := rfl
theorem kB_err : kB (.err k q S) = .err k q S := rfl
def kCh1 (o : Out Vl) (env : En) (b c : XE') (og og' : Vl → Vl → Sto → Out Vl) : Out Vl := o.bind fun x S1 => (b env S1).bind fun y S2 => (og x y S2).bind fun z S3 => (toB z S3).bind fun k S4 => if k = true then (c env S4).bind fun w S5 => og' y w S5 else .ok (.bl false) S4
def kCh2 (o : Out Vl) (env : En) (x : Vl) (c : XE') (og og' : Vl → Vl → Sto → Out Vl) : Out Vl := o.bind fun y S2 => (og x y S2).bind fun z S3 => (toB z S3).bind fun k S4 => if k = true then (c env S4).bind fun w S5 => og' y w S5 else .ok (.bl false) S4
def kCh3 (o : Out Vl) (env : En) (y : Vl) (c : XE') (og' : Vl → Vl → Sto → Out Vl) : Out Vl := o.bind fun z S3 => (toB z S3).bind fun k S4 => if k = true then (c env S4).bind fun w S5 => og' y w S5 else .ok (.bl false) S4
theorem xChain_e {og' : Vl → Vl → Sto → Out Vl} : xChain og og' a b c env S = kCh1 (a env S) env b c og og' := rfl
theorem kCh1_ok {og' : Vl → Vl → Sto → Out Vl} : kCh1 (.ok x S) env b c og og' = kCh2 (b env S) env x c og og' := rfl
theorem kCh2_ok {og' : Vl → Vl → Sto → Out Vl} : kCh2 (.ok y S) env x c og og' = kCh3 (og x y S) env y c og' := rfl
theorem kCh3_t {og' : Vl → Vl → Sto → Out Vl} : kCh3 (.ok (.bl true) S) env y c og' = kOp2 (c env S) y og' := rfl
theorem kCh3_f {og' : Vl → Vl → Sto → Out Vl} : kCh3 (.ok (.bl false) S) env y c og' = .ok (.bl false) S := rfl
def kV (o : Out Vl) : Out Bool := o.bind truth
theorem yV_e : yV a env S = kV (a env S) := rfl
theorem kV_ok : kV (.ok x S) = truth x S := rfl
theorem kV_err : kV (.err k q S) = .err k q S := rfl
theorem yYes_e : yYes env S = .ok true S := rfl
def kAnd (o : Out Bool) (env : En) (u : XT) : Out Bool := o.bind fun c S1 => if c = true then u env S1 else .ok false S1
theorem yAnd_e : yAnd t u env S = kAnd (t env S) env u := rfl
theorem kAnd_t : kAnd (.ok true S) env u = u env S := rfl
theorem kAnd_f : kAnd (.ok false S) env u = .ok false S := rfl
theorem kAnd_err : kAnd (.err k q S) env u = .err k q S := rfl
def kOr (o : Out Bool) (env : En) (u : XT) : Out Bool := o.bind fun c S1 => if c = true then .ok true S1 else u env S1
theorem yOr_e : yOr t u env S = kOr (t env S) env u := rfl
theorem kOr_t : kOr (.ok true S) env u = .ok true S := rfl
theorem kOr_f : kOr (.ok false S) env u = u env S := rfl
theorem kOr_err : kOr (.err k q S) env u = .err k q S := rfl
def kNot (o : Out Bool) : Out Bool := o.bind fun c S1 => .ok (!c) S1
theorem yNot_e : yNot t env S = kNot (t env S) := rfl
theorem kNot_ok : kNot (.ok bl S) = .ok (!bl) S := rfl
theorem kNot_err : kNot (.err k q S) = .err k q S := rfl
def kXIf (o : Out Bool) (env : En) (a b : XE') : Out Vl := o.bind fun c S1 => if c = true then a env S1 else b env S1
theorem xIf_e : xIf t a b env S = kXIf (t env S) env a b := rfl
theorem kXIf_t : kXIf (.ok true S) env a b = a env S := rfl
theorem kXIf_f : kXIf (.ok false S) env a b = b env S := rfl
theorem kXIf_err : kXIf (.err k q S) env a b = .err k q S := rfl
def kXA (o : Out Vl) (env : En) (b : XE') : Out Vl := o.bind fun x S1 => (truth x S1).bind fun c S2 => if c = true then b env S2 else .ok x S2
def kXA2 (o : Out Bool) (env : En) (x : Vl) (b : XE') : Out Vl := o.bind fun c S2 => if c = true then b env S2 else .ok x S2
theorem xAnd_e : xAnd a b env S = kXA (a env S) env b := rfl
theorem kXA_ok : kXA (.ok x S) env b = kXA2 (truth x S) env x b := rfl
theorem kXA2_t : kXA2 (.ok true S) env x b = b env S := rfl
theorem kXA2_f : kXA2 (.ok false S) env x b = .ok x S := rfl
def kXO (o : Out Vl) (env : En) (b : XE') : Out Vl := o.bind fun x S1 => (truth x S1).bind fun c S2 => if c = true then .ok x S2 else b env S2
def kXO2 (o : Out Bool) (env : En) (x : Vl) (b : XE') : Out Vl := o.bind fun c S2 => if c = true then .ok x S2 else b env S2
theorem xOr_e : xOr a b env S = kXO (a env S) env b := rfl
theorem kXO_ok : kXO (.ok x S) env b = kXO2 (truth x S) env x b := rfl
theorem kXO2_t : kXO2 (.ok true S) env x b = .ok x S := rfl
theorem kXO2_f : kXO2 (.ok false S) env x b = b env S := rfl
def kXN (o : Out Vl) : Out Vl := o.bind fun x S1 => (truth x S1).bind fun c S2 => .ok (.bl (!c)) S2
def kXN2 (o : Out Bool) : Out Vl := o.bind fun c S2 => .ok (.bl (!c)) S2
theorem xNot_e : xNot a env S = kXN (a env S) := rfl
theorem kXN_ok : kXN (.ok x S) = kXN2 (truth x S) := rfl
theorem kXN2_ok : kXN2 (.ok bl S) = .ok (.bl (!bl)) S := rfl
/- calls -/
def kBA1 (o : Out (List Vl)) (env : En) (ak : XA) : Out (List Vl × List Vl) := o.bind fun xs S1 => (ak env S1).bind fun zs S2 => .ok (xs, zs) S2
def kBA2 (o : Out (List Vl)) (xs : List Vl) : Out (List Vl × List Vl) := o.bind fun zs S2 => .ok (xs, zs) S2
theorem bArgs_e : bArgs aa ak env S = kBA1 (aa env S) env ak := rfl
theorem kBA1_ok : kBA1 (.ok xs S) env ak = kBA2 (ak env S) xs := rfl
theorem kBA1_err : kBA1 (.err k q S) env ak = .err k q S := rfl
theorem kBA2_ok : kBA2 (.ok zs S) xs = .ok (xs, zs) S := rfl
theorem kBA2_err : kBA2 (.err k q S) xs = .err k q S := rfl
def kCall (o : Out (List Vl × List Vl)) (n np : Nat) (gL : List Vl → List Vl → List Vl) (nk : Nat) (mf : List Vl → Sto → Out Vl) : Out Vl := o.bind fun xz S1 => if xz.1.length = n ∧ xz.2.length = nk ∧ (gL xz.1 xz.2).length = np then mf (gL xz.1 xz.2) S1 else .bad
theorem xCall_e : xCall n np gL nk cg ab env S = kCall (ab env S) n np gL nk cg := rfl
theorem kCall_ok (h : (xs.length == n && (zs.length == nk && (gL xs zs).length == np)) = true) : kCall (.ok (xs, zs) S) n np gL nk cg = cg (gL xs zs) S := by
  show (if _ then _ else _) = _
  simp only [Bool.and_eq_true, beq_iff_eq] at h
  rw [if_pos h]
theorem kCall_err : kCall (.err k q S) n np gL nk cg = .err k q S := rfl
def kMk1 (o : Out (List Vl × List Vl)) (c n np : Nat) (gL : List Vl → List Vl → List Vl) (nk : Nat) (mf : List Vl → Sto → Out Vl) : Out Vl := o.bind fun xz S1 => if xz.1.length = n ∧ xz.2.length = nk ∧ (gL (.ref S1.length :: xz.1) xz.2).length = np then
  (mf (gL (.ref S1.length :: xz.1) xz.2) (S1 ++ [.ins c []])).bind fun v S2 => match v with
    | .non => .ok (.ref S1.length) S2
    | _ => .bad
  else .bad
def kMk2 (o : Out Vl) (n : Nat) : Out Vl := o.bind fun v S2 => match v with
    | .non => .ok (.ref n) S2
    | _ => .bad
theorem xMake_e : xMake i n np gL nk cg ab env S = kMk1 (ab env S) i n np gL nk cg := rfl
theorem kMk1_ok (h : (xs.length == n && (zs.length == nk && (gL (.ref S.length :: xs) zs).length == np)) = true) : kMk1 (.ok (xs, zs) S) i n np gL nk cg = kMk2 (cg (gL (.ref S.length :: xs) zs) (S ++ [.ins i []])) S.length := by
  show (if _ then _ else _) = _
  simp only [Bool.and_eq_true, beq_iff_eq] at h
  rw [if_pos h]
  rfl
theorem kMk1_err : kMk1 (.err k q S) i n np gL nk cg = .err k q S := rfl
theorem kMk2_ok : kMk2 (.ok .non S) n = .ok (.ref n) S := rfl
theorem kMk2_err : kMk2 (.err k q S) n = .err k q S := rfl
def kMe1 (o : Out Vl) (env : En) (tb : List (Nat × MT)) (a : XB) : Out Vl := o.bind fun ov S1 => match ov with
  | .ref i => match S1[i]? with
    | some (.ins c _) => match tb.lookup c with
      | some M => (a env S1).bind fun xz S2 => if xz.1.length = M.n ∧ xz.2.length = M.nk ∧ (M.gL (ov :: xz.1) xz.2).length = M.np then M.mf (M.gL (ov :: xz.1) xz.2) S2 else .bad
      | none => .bad
    | _ => .bad
  | _ => .bad
def kMe2 (M? : Option MT) (env : En) (ov : Vl) (a : XB) (S : Sto) : Out Vl := match M? with
  | some M => (a env S).bind fun xz S2 => if xz.1.length = M.n ∧ xz.2.length = M.nk ∧ (M.gL (ov :: xz.1) xz.2).length = M.np then M.mf (M.gL (ov :: xz.1) xz.2) S2 else .bad
  | none => .bad
def kMe3 (o : Out (List Vl × List Vl)) (ov : Vl) (M : MT) : Out Vl := o.bind fun xz S2 => if xz.1.length = M.n ∧ xz.2.length = M.nk ∧ (M.gL (ov :: xz.1) xz.2).length = M.np then M.mf (M.gL (ov :: xz.1) xz.2) S2 else .bad
theorem xMeth_e : xMeth tb o ab env S = kMe1 (o env S) env tb ab := rfl
def kMe1b (o? : Option Ob) (i : Nat) (env : En) (tb : List (Nat × MT)) (a : XB) (S : Sto) : Out Vl := match o? with
  | some (.ins c _) => kMe2 (tb.lookup c) env (.ref i) a S
  | _ => .bad
theorem kMe1_ok : kMe1 (.ok (.ref i) S) env tb ab = kMe1b (S[i]?) i env tb ab S := rfl
theorem kMe1b_s : kMe1b (some (.ins j fs)) i env tb ab S = kMe2 (tb.lookup j) env (.ref i) ab S := rfl
theorem kMe2_ok {n np nk : Nat} : kMe2 (some ⟨n, np, nk, gL, cg⟩) env x ab S = kMe3 (ab env S) x ⟨n, np, nk, gL, cg⟩ := rfl
theorem kMe3_ok (h : (xs.length == n && (zs.length == nk && (gL (x :: xs) zs).length == np)) = true) : kMe3 (.ok (xs, zs) S) x ⟨n, np, nk, gL, cg⟩ = cg (gL (x :: xs) zs) S := by
  show (if _ then _ else _) = _
  simp only [Bool.and_eq_true, beq_iff_eq] at h
  rw [if_pos h]
theorem kMe3_err : kMe3 (.err k q S) x M = .err k q S := rfl
def kF1 (o : Out Vl) (k : Nat) (cs : List Nat) : Out Vl := o.bind fun ov S1 => match ov with
  | .ref i => match S1[i]? with
    | some (.ins c fs) => if cs.contains c = true then match fs.lookup k with
      | some v => .ok v S1
      | none => .bad
      else .bad
    | _ => .bad
  | _ => .bad
theorem xFld_e : xFld k cs o env S = kF1 (o env S) k cs := rfl
def kF3 (v? : Option Vl) (S : Sto) : Out Vl := match v? with
  | some v => .ok v S
  | none => .bad
theorem kF3_s : kF3 (some v) S = .ok v S := rfl
def kF2 (o? : Option Ob) (k : Nat) (cs : List Nat) (S : Sto) : Out Vl := match o? with
  | some (.ins c fs) => if cs.contains c = true then kF3 (fs.lookup k) S else .bad
  | _ => .bad
theorem kF1_ok : kF1 (.ok (.ref i) S) k cs = kF2 (S[i]?) k cs S := rfl
theorem kF2_s {c' : Nat} : kF2 (some (.ins c' fs)) k cs S = if cs.contains c' = true then kF3 (fs.lookup k) S else .bad := rfl
theorem kF1_err : kF1 (.err i q S) k cs = .err i q S := rfl

def kCV2 (M? : Option MT) (env : En) (a : XB) (S : Sto) : Out Vl := match M? with
  | some M => (a env S).bind fun xz S2 => if xz.1.length = M.n ∧ xz.2.length = M.nk ∧ (M.gL xz.1 xz.2).length = M.np then M.mf (M.gL xz.1 xz.2) S2 else .bad
  | none => .bad
def kCV1 (x? : Option (Option Vl)) (tb : List (Nat × MT)) (env : En) (a : XB) (S : Sto) : Out Vl := match x? with
  | some (some (.fn j)) => kCV2 (tb.lookup j) env a S
  | _ => .bad
theorem xCallV_k : xCallV tb i ab env S = kCV1 (env[i]?) tb env ab S := rfl
theorem kCV1_s : kCV1 (some (some (.fn j))) tb env ab S = kCV2 (tb.lookup j) env ab S := rfl
theorem kCV2_ok {n np nk : Nat} : kCV2 (some ⟨n, np, nk, gL, cg⟩) env ab S = kCall (ab env S) n np gL nk cg := rfl
def kBM1 (o : Out Vl) (env : En) (T : String) (mg : Vl → List Vl → Sto → Out Vl) (a : XA) : Out Vl := o.bind fun x S1 => if tyM T x S1 = true then (a env S1).bind fun xs S2 => mg x xs S2 else .bad
def kBM2 (o : Out (List Vl)) (x : Vl) (mg : Vl → List Vl → Sto → Out Vl) : Out Vl := o.bind fun xs S2 => mg x xs S2
theorem xBM_e {T : String} {mg : Vl → List Vl → Sto → Out Vl} : xBM T mg a aa env S = kBM1 (a env S) env T mg aa := rfl
theorem kBM1_ok {T : String} {mg : Vl → List Vl → Sto → Out Vl} (h : tyM T x S = true) : kBM1 (.ok x S) env T mg aa = kBM2 (aa env S) x mg := by
  show (if _ then _ else _) = _
  rw [if_pos h]
  rfl
theorem kBM2_ok {mg : Vl → List Vl → Sto → Out Vl} : kBM2 (.ok xs S) x mg = mg x xs S := rfl

/- op= on a field -/
def kFA1 (o : Out Vl) (env : En) (k : Nat) (cs : List Nat) (a : XE') (og : Vl → Vl → Sto → Out Vl) : Out Fl := o.bindS env fun ov S1 => match ov with
  | .ref i => match S1[i]? with
    | some (.ins c fs) => if cs.contains c = true then match fs.lookup k with
      | some x => (a env S1).bindS env fun y S2 => (og x y S2).bindS env fun z S3 => match S3[i]? with
        | some (.ins c' fs') => if c' = c ∧ fs'.length < 1000 then .ok (.nx env) (S3.set i (.ins c (putL k z fs'))) else .bad
        | _ => .bad
      | none => .bad
      else .bad
    | _ => .bad
  | _ => .bad
def kFA2 (o : Out Vl) (env : En) (k i c : Nat) (x : Vl) (og : Vl → Vl → Sto → Out Vl) : Out Fl := o.bindS env fun y S2 => (og x y S2).bindS env fun z S3 => match S3[i]? with
        | some (.ins c' fs') => if c' = c ∧ fs'.length < 1000 then .ok (.nx env) (S3.set i (.ins c (putL k z fs'))) else .bad
        | _ => .bad
def kFA3 (o : Out Vl) (env : En) (k i c : Nat) : Out Fl := o.bindS env fun z S3 => match S3[i]? with
        | some (.ins c' fs') => if c' = c ∧ fs'.length < 1000 then .ok (.nx env) (S3.set i (.ins c (putL k z fs'))) else .bad
        | _ => .bad
theorem zFA_e : zFldAug k cs o a og env S = kFA1 (o env S) env k cs a og := rfl
def kFA1c (v? : Option Vl) (env : En) (k i c : Nat) (a : XE') (og : Vl → Vl → Sto → Out Vl) (S : Sto) : Out Fl := match v? with
  | some x => kFA2 (a env S) env k i c x og
  | none => .bad
theorem kFA1c_s : kFA1c (some x) env k i j a og S = kFA2 (a env S) env k i j x og := rfl
def kFA1b (o? : Option Ob) (i : Nat) (env : En) (k : Nat) (cs : List Nat) (a : XE') (og : Vl → Vl → Sto → Out Vl) (S : Sto) : Out Fl := match o? with
  | some (.ins c fs) => if cs.contains c = true then kFA1c (fs.lookup k) env k i c a og S else .bad
  | _ => .bad
theorem kFA1_ok : kFA1 (.ok (.ref i) S) env k cs a og = kFA1b (S[i]?) i env k cs a og S := rfl
theorem kFA1b_s {c' : Nat} : kFA1b (some (.ins c' fs)) i env k cs a og S = if cs.contains c' = true then kFA1c (fs.lookup k) env k i c' a og S else .bad := rfl
theorem kFA2_ok : kFA2 (.ok y S) env k i j x og = kFA3 (og x y S) env k i j := rfl
def kFA4 (o? : Option Ob) (env : En) (k i c : Nat) (z : Vl) (S : Sto) : Out Fl := match o? with
  | some (.ins c' fs') => if c' = c ∧ fs'.length < 1000 then .ok (.nx env) (S.set i (.ins c (putL k z fs'))) else .bad
  | _ => .bad
theorem kFA3_ok : kFA3 (.ok z S) env k i j = kFA4 (S[i]?) env k i j z S := rfl
theorem kFA4_s : kFA4 (some (.ins n fs)) env k i j z S = if n = j ∧ fs.length < 1000 then .ok (.nx env) (S.set i (.ins j (putL k z fs))) else .bad := rfl
/- parts -/
def kAt (v? : Option Vl) (S : Sto) : Out Vl := match v? with
  | some v => .ok v S
  | none => .bad
theorem kAt_s : kAt (some v) S = .ok v S := rfl
def kAtI (v? : Option Int) (S : Sto) : Out Vl := match v? with
  | some v => .ok (.int v) S
  | none => .bad
theorem kAtI_s {n : Int} : kAtI (some n) S = .ok (.int n) S := rfl
def kDg (v? : Option (Option Vl)) (S : Sto) : Out Vl := match v? with
  | some (some v) => .ok v S
  | _ => .bad
theorem kDg_s : kDg (some (some v)) S = .ok v S := rfl
def kRf (o? : Option Ob) (i : Nat) (n : Int) (S : Sto) : Out Vl := match o? with
  | some (.lst xs) => kAt (atI xs n) S
  | _ => kDg (dGet S i (.int n)) S
theorem kRf_l {n : Int} : kRf (some (.lst xs)) i n S = kAt (atI xs n) S := rfl
theorem kRf_k {n : Int} {kv : List (Key × Vl)} : kRf (some (.dk kv)) i n S = kDg (dGet S i (.int n)) S := rfl
theorem vIx_tup {n : Int} : vIx (.tup xs) (.int n) S = kAt (atI xs n) S := rfl
theorem vIx_ktp {n : Int} : vIx (.ktp xs) (.int n) S = kAt (atI xs n) S := rfl
theorem vIx_scr {n : Int} {ns : List Int} : vIx (.scr ns) (.int n) S = kAtI (atI ns n) S := rfl
theorem vIx_ri {n : Int} : vIx (.ref i) (.int n) S = kRf (S[i]?) i n S := rfl
theorem vIx_rs {z : Str} : vIx (.ref i) (.str z) S = kDg (dGet S i (.str z)) S := rfl
theorem vIx_rt : vIx (.ref i) (.tup xs) S = kDg (dGet S i (.tup xs)) S := rfl
/- loops -/
def kFor (o : Out Itm) (env : En) (gm : GM) (f : ZS) : Out Fl := o.bindS env fun I S1 => forZ I gm f I.fuel 0 env S1
theorem zFor_e {it : En → Sto → Out Itm} : zFor it gm f env S = kFor (it env S) env gm f := rfl
theorem kFor_ok {I : Itm} : kFor (.ok I S) env gm f = forZ I gm f I.fuel 0 env S := rfl
theorem kFor_err : kFor (.err k q S) env gm f = .ok (.er k q env) S := rfl
def kR1 (o : Out (List Vl)) : Out Itm := o.bind fun vs S1 => match vs with
  | [.int j] => if -(2 ^ 62) ≤ j ∧ j < 2 ^ 62 then .ok (itR 0 j.toNat) S1 else .bad
  | _ => .bad
theorem itR_f {lo : Int} : (itR lo n).fuel = n := rfl
theorem itL_f : (itL i n).fuel = n := rfl
theorem itT_f : (itT xs).fuel = xs.length := rfl
theorem iRange1_e : iRange1 aa env S = kR1 (aa env S) := rfl
theorem kR1_ok {m : Int} (h : -4611686018427387904 ≤ m ∧ m < 4611686018427387904) : kR1 (.ok [.int m] S) = .ok (itR 0 m.toNat) S := by
  show (if _ then _ else _) = _
  rw [if_pos ⟨by omega, by omega⟩]
def kAny (o : Out Vl) : Out Itm := o.bind vIter
theorem iAny_e : iAny a env S = kAny (a env S) := rfl
theorem kAny_t : kAny (.ok (.tup xs) S) = .ok (itT xs) S := rfl
theorem kAny_k : kAny (.ok (.ktp xs) S) = .ok (itT xs) S := rfl
def kIt (o? : Option Ob) (i : Nat) (S : Sto) : Out Itm := match o? with
  | some (.lst xs) => .ok (itL i xs.length) S
  | _ => .bad
theorem kAny_r : kAny (.ok (.ref i) S) = kIt (S[i]?) i S := rfl
theorem kIt_l : kIt (some (.lst xs)) i S = .ok (itL i xs.length) S := rfl
/- in -/
def kDi (o? : Option (Option Vl)) (bl : Bool) (S : Sto) : Out Vl := match o? with
  | some o => .ok (.bl (bl ^^ o.isSome)) S
  | none => .bad
theorem kDi_s {p : Option Vl} : kDi (some p) bl S = .ok (.bl (bl ^^ p.isSome)) S := rfl
def kIn (o? : Option Ob) (bl : Bool) (x : Vl) (i : Nat) (S : Sto) : Out Vl := match o? with
  | some (.lst ys) => seqIn bl x ys S
  | _ => kDi (dGet S i x) bl S
theorem vIn_r : vInG bl x (.ref i) S = kIn (S[i]?) bl x i S := rfl
theorem vIn_t : vInG bl x (.tup xs) S = seqIn bl x xs S := rfl
theorem vIn_k : vInG bl x (.ktp xs) S = seqIn bl x xs S := rfl
theorem kIn_l : kIn (some (.lst xs)) bl x i S = seqIn bl x xs S := rfl
theorem kIn_k {kv : List (Key × Vl)} : kIn (some (.dk kv)) bl x i S = kDi (dGet S i x) bl S := rfl
theorem kIn_t {kv : List (List Key × Vl)} : kIn (some (.dt kv)) bl x i S = kDi (dGet S i x) bl S := rfl
end
/-! ### numbers, places -/
theorem vMul_l {i j : Int} {S : Sto} (h : -18446744073709551616 < i ∧ i < 18446744073709551616) : vMul (.int i) (.int j) S = .ok (.int (i * j)) S := by
  show (if _ then _ else _) = _
  rw [if_pos (.inl (.inl (by omega)))]
theorem vMul_r {i j : Int} {S : Sto} (h : -18446744073709551616 < j ∧ j < 18446744073709551616) : vMul (.int i) (.int j) S = .ok (.int (i * j)) S := by
  show (if _ then _ else _) = _
  rw [if_pos (.inl (.inr (by omega)))]
theorem vDiv_w {i j : Int} {S : Sto} (h : 0 < j ∧ j.natAbs.log2 < 9000) : vDiv (.int i) (.int j) S = .ok (.int (i / j)) S := by
  show (if _ then _ else _) = _
  rw [if_pos h]
theorem vDiv_s {i j : Int} {S : Sto} (h : 0 < j) (h2 : j < 18446744073709551616) : vDiv (.int i) (.int j) S = .ok (.int (i / j)) S := vDiv_w ⟨h, by
  have h3 : j.natAbs < 2 ^ 64 := by omega
  have h4 : j.natAbs.log2 < 64 := (Nat.log2_lt (by omega)).mpr h3
  omega⟩
theorem vMod_s {i j : Int} {S : Sto} (h : 0 < j) : vMod (.int i) (.int j) S = .ok (.int (i % j)) S := by
  show (if _ then _ else _) = _
  rw [if_pos h]
theorem vPow_10 {j : Int} {S : Sto} (h : 0 ≤ j) (h2 : j ≤ 1000000) : vPow (.int 10) (.int j) S = .ok (.int (10 ^ j.toNat)) S := by
  show (if _ then _ else _) = _
  rw [if_pos ⟨h, h2, by decide⟩]
theorem a_0 {α : Type} {x : α} {xs : List α} : atI (x :: xs) 0 = some x := atI_nat (j := 0) rfl
theorem a_1 {α : Type} {x y : α} {xs : List α} : atI (x :: y :: xs) 1 = some y := atI_nat (j := 1) rfl
theorem a_2 {α : Type} {x y z : α} {xs : List α} : atI (x :: y :: z :: xs) 2 = some z := atI_nat (j := 2) rfl
theorem a_3 {α : Type} {x y z u : α} {xs : List α} : atI (x :: y :: z :: u :: xs) 3 = some u := atI_nat (j := 3) rfl
theorem i_0 {n : Nat} : ixN (n + 1) 0 = some 0 := by
  unfold ixN
  rw [if_pos (by omega), if_pos (by omega)]; rfl
theorem i_1 {n : Nat} : ixN (n + 1 + 1) 1 = some 1 := by
  unfold ixN
  rw [if_pos (by omega), if_pos (by omega)]; rfl
theorem i_2 {n : Nat} : ixN (n + 1 + 1 + 1) 2 = some 2 := by
  unfold ixN
  rw [if_pos (by omega), if_pos (by omega)]; rfl
/-! ### try, isinstance of what was caught -/
section
variable {env e : En} {S : Sto} {i c : Nat} {mt : Nat → Option Bool} {fb : ZS} {fs : Nat → ZS} {v : Vl} {f2 : XE'} {ans : Vl → Option Bool} {b : Bool}
theorem zTryAs_e : zTryAs i mt fb fs env S = catchZ i mt fs (fb env S) := rfl
theorem catch_nx : catchZ i mt fs (.ok (.nx e) S) = .ok (.nx e) S := rfl
theorem catch_rt : catchZ i mt fs (.ok (.rt v) S) = .ok (.rt v) S := rfl
theorem catch_er (h : mt c = some true) (hl : i < e.length) : catchZ i mt fs (.ok (.er c none e) S) = outS i (fs c (e.set i none) S) := by
  unfold catchZ
  dsimp only
  rw [h]
  dsimp only
  rw [if_pos hl]
theorem outS_nx : outS i (.ok (.nx e) S) = .ok (.nx (e.set i none)) S := rfl
theorem outS_rt : outS i (.ok (.rt v) S) = .ok (.rt v) S := rfl
def kIsE2 (o : Option Bool) (S : Sto) : Out Vl := match o with
  | some b => .ok (.bl b) S
  | none => .bad
def kIsE (o : Out Vl) (ans : Vl → Option Bool) : Out Vl := o.bind fun v S1 => kIsE2 (ans v) S1
theorem xIsE_e : xIsE ans f2 env S = kIsE (f2 env S) ans := rfl
theorem kIsE_ok : kIsE (.ok v S) ans = kIsE2 (ans v) S := rfl
theorem kIsE2_s : kIsE2 (some b) S = .ok (.bl b) S := rfl
end
end Nt

namespace Nt
open PySem PySem.Spec PyProof.Rows L2 Evl
/-! ### loops, promises -/
/-- a while loop with a measure: it goes on, or returns, or ends -/
theorem whileZ_inv {t : XT} {f : ZS} (P : Nat → En → Sto → Prop) (Q : En → Sto → Prop)
    (h : ∀ n env S, P n env S → (∃ S1, t env S = .ok false S1 ∧ Q env S1) ∨ (∃ S1 n' e S2, t env S = .ok true S1 ∧ (f env S1 = .ok (.nx e) S2 ∨ f env S1 = .ok (.ct e) S2) ∧ n' < n ∧ P n' e S2) ∨ (∃ S1 e S2, t env S = .ok true S1 ∧ f env S1 = .ok (.bk e) S2 ∧ Q e S2)) :
    ∀ (φ n : Nat) env S, n < φ → P n env S → ∃ e S', whileZ t f φ env S = .ok (.nx e) S' ∧ Q e S'
  | 0, n, env, S, hn, _ => absurd hn (Nat.not_lt_zero _)
  | φ + 1, n, env, S, hn, hP => by
    rcases h n env S hP with ⟨S1, h1, h2⟩ | ⟨S1, n', e, S2, h1, h2, h3, h4⟩ | ⟨S1, e, S2, h1, h2, h3⟩
    · refine ⟨env, S1, ?_, h2⟩
      rw [whileZ, h1]; rfl
    · obtain ⟨e', S', h5, h6⟩ := whileZ_inv P Q h φ n' e S2 (by omega) h4
      refine ⟨e', S', ?_, h6⟩
      rw [whileZ, h1, Out.bindS_ok, if_pos rfl]
      rcases h2 with h2 | h2 <;> (rw [h2]; exact h5)
    · refine ⟨e, S2, ?_, h3⟩
      rw [whileZ, h1, Out.bindS_ok, if_pos rfl, h2]
/-- the same, where it may return -/
theorem whileZ_ret {t : XT} {f : ZS} (P : Nat → En → Sto → Prop) (Q : Fl → Sto → Prop)
    (h : ∀ n env S, P n env S → (∃ S1, t env S = .ok false S1 ∧ Q (.nx env) S1) ∨ (∃ S1 n' e S2, t env S = .ok true S1 ∧ (f env S1 = .ok (.nx e) S2 ∨ f env S1 = .ok (.ct e) S2) ∧ n' < n ∧ P n' e S2) ∨ (∃ S1 e S2, t env S = .ok true S1 ∧ f env S1 = .ok (.bk e) S2 ∧ Q (.nx e) S2) ∨ (∃ S1 v S2, t env S = .ok true S1 ∧ f env S1 = .ok (.rt v) S2 ∧ Q (.rt v) S2)) :
    ∀ (φ n : Nat) env S, n < φ → P n env S → ∃ o S', whileZ t f φ env S = .ok o S' ∧ Q o S'
  | 0, n, env, S, hn, _ => absurd hn (Nat.not_lt_zero _)
  | φ + 1, n, env, S, hn, hP => by
    rcases h n env S hP with ⟨S1, h1, h2⟩ | ⟨S1, n', e, S2, h1, h2, h3, h4⟩ | ⟨S1, e, S2, h1, h2, h3⟩ | ⟨S1, v, S2, h1, h2, h3⟩
    · refine ⟨.nx env, S1, ?_, h2⟩
      rw [whileZ, h1]; rfl
    · obtain ⟨o, S', h5, h6⟩ := whileZ_ret P Q h φ n' e S2 (by omega) h4
      refine ⟨o, S', ?_, h6⟩
      rw [whileZ, h1, Out.bindS_ok, if_pos rfl]
      rcases h2 with h2 | h2 <;> (rw [h2]; exact h5)
    · refine ⟨.nx e, S2, ?_, h3⟩
      rw [whileZ, h1, Out.bindS_ok, if_pos rfl, h2]
    · refine ⟨.rt v, S2, ?_, h3⟩
      rw [whileZ, h1, Out.bindS_ok, if_pos rfl, h2]
theorem zWhile_e {φ : Nat} {t : XT} {f : ZS} {env : En} {S : Sto} : zWhile φ t f env S = whileZ t f φ env S := rfl
theorem ipow_le {a : Nat} (ha : 0 < a) {i j : Nat} (h : i ≤ j) : (a : Int) ^ i ≤ (a : Int) ^ j := by
  rw [← Int.natCast_pow, ← Int.natCast_pow]
  exact Int.ofNat_le.mpr (Nat.pow_le_pow_right ha h)
theorem ni1 {a b : Nat} (h : a ≠ b) : a ∉ [b] := by
  intro q
  rw [List.mem_singleton] at q
  exact h q
theorem ni2 {a b c : Nat} (h : a ≠ b) (h2 : a ≠ c) : a ∉ [b, c] := by
  intro q
  rw [List.mem_cons, List.mem_singleton] at q
  rcases q with q | q
  · exact h q
  · exact h2 q
/-! ### places of a store -/
theorem set_same {S : Sto} {i : Nat} {o : Ob} (h : S[i]? = some o) : S.set i o = S := by
  apply List.ext_getElem?
  intro j
  by_cases e : i = j
  · subst e; rw [get_set h, h]
  · rw [get_set_ne e]
theorem set_new {S : Sto} {a b : Ob} : (S ++ [a]).set S.length b = S ++ [b] := by
  rw [List.set_append_right _ _ (Nat.le_refl _), Nat.sub_self]; rfl
theorem get_at0 {S : Sto} {a : Ob} {T : Sto} : (S ++ a :: T)[S.length]? = some a := by
  rw [List.getElem?_append_right (Nat.le_refl _), Nat.sub_self]; rfl
theorem get_at {S T : Sto} {k : Nat} : (S ++ T)[S.length + k]? = T[k]? := by
  rw [List.getElem?_append_right (by omega), Nat.add_sub_cancel_left]
theorem set_at0 {S : Sto} {a b : Ob} {T : Sto} : (S ++ a :: T).set S.length b = S ++ b :: T := by
  rw [List.set_append_right _ _ (Nat.le_refl _), Nat.sub_self]; rfl
theorem set_at {S T : Sto} {k : Nat} {b : Ob} : (S ++ T).set (S.length + k) b = S ++ T.set k b := by
  rw [List.set_append_right _ _ (by omega), Nat.add_sub_cancel_left]
/-! ### letters of short texts -/
theorem ix_ab0 {S : Sto} : vIx (.str "ab") (.int 0) S = .ok (.str "a") S := by
  rw [vIx, if_pos (by decide +kernel)]; rfl
theorem ix_ab1 {S : Sto} : vIx (.str "ab") (.int 1) S = .ok (.str "b") S := by
  rw [vIx, if_pos (by decide +kernel)]; rfl
theorem ix_di0 {S : Sto} : vIx (.str "+-=") (.int 0) S = .ok (.str "+") S := by
  rw [vIx, if_pos (by decide +kernel)]; rfl
theorem ix_di1 {S : Sto} : vIx (.str "+-=") (.int 1) S = .ok (.str "-") S := by
  rw [vIx, if_pos (by decide +kernel)]; rfl
theorem ix_di2 {S : Sto} : vIx (.str "+-=") (.int 2) S = .ok (.str "=") S := by
  rw [vIx, if_pos (by decide +kernel)]; rfl
/-! ### data as values that were made -/
def tv : PyData → Vl
  | .none => .non
  | .bool b => .bl b
  | .int i => .int i
  | .str s => .str s
  | .list _ => .non
  | .tuple xs => .tup (tvs xs)
  | .dict _ => .non
where tvs : List PyData → List Vl
  | [] => []
  | x :: xs => tv x :: tvs xs
theorem tvs_map : ∀ ds : List PyData, tv.tvs ds = ds.map tv
  | [] => by rw [tv.tvs]; rfl
  | d :: ds => by rw [tv.tvs, tvs_map ds]; rfl
theorem tv_tuple {ds : List PyData} : tv (.tuple ds) = .tup (ds.map tv) := by rw [tv, tvs_map]
theorem tv_int {i : Int} : tv (.int i) = .int i := by rw [tv]
theorem tv_str {z : Str} : tv (.str z) = .str z := by rw [tv]
theorem tv_bool {z : Bool} : tv (.bool z) = .bl z := by rw [tv]
theorem tv_none : tv .none = .non := by rw [tv]
end Nt

namespace Nt
open PySem PySem.Spec PyProof.Rows L2 Evl
/-! ### programs as trees -/
inductive Tm where
  | v (b : Bool) | k (n : Int)
inductive Sg where
  | eq | ne | lt
structure Cd where
  x : Bool
  s : Sg
  t : Tm
inductive Di where
  | pl | mi | at_
inductive Stm where
  | wait (n : Int) | set (x : Bool) (n : Int) | add (x : Bool) (t : Tm) | ask (s : Di) (t : Tm) (x : Bool) | answer (n : Int) | grow (t : Tm) | list (t : Tm)
  | whl (c : Cd) (b : List Stm) | ite (c : Cd) (b d : List Stm)
def dX (b : Bool) : Str := if b = true then "b" else "a"
theorem dX_t : dX true = "b" := rfl
theorem dX_f : dX false = "a" := rfl
def dT : Tm → PyData
  | .v b => .str (dX b)
  | .k n => .int n
def sG : Sg → Str
  | .eq => "=="
  | .ne => "!="
  | .lt => "<"
def sD : Di → Str
  | .pl => "+"
  | .mi => "-"
  | .at_ => "="
def dC (c : Cd) : PyData := .tuple [.str (dX c.x), .str (sG c.s), dT c.t]
mutual
def dS : Stm → PyData
  | .wait n => .tuple [.str "wait", .int n]
  | .set x n => .tuple [.str "set", .str (dX x), .int n]
  | .add x t => .tuple [.str "add", .str (dX x), dT t]
  | .ask s t x => .tuple [.str "ask", .str (sD s), dT t, .str (dX x)]
  | .answer n => .tuple [.str "answer", .int n]
  | .grow t => .tuple [.str "grow", dT t]
  | .list t => .tuple [.str "list", dT t]
  | .whl c b => .tuple [.str "while", dC c, .tuple (dB b)]
  | .ite c b d => .tuple [.str "if", dC c, .tuple (dB b), .tuple (dB d)]
def dB : List Stm → List PyData
  | [] => []
  | s :: ss => dS s :: dB ss
end
theorem dB_map : ∀ b : List Stm, dB b = b.map dS
  | [] => by rw [dB]; rfl
  | s :: ss => by rw [dB, dB_map ss]; rfl
def okT : Tm → Prop
  | .v _ => True
  | .k n => 0 ≤ n ∧ n ≤ 15
mutual
/-- a statement of a kind (true: collector), whose bodies go at most so deep -/
def okS (col : Bool) : Nat → Stm → Prop
  | _, .wait n => 1 ≤ n ∧ n ≤ 10 ^ 30
  | _, .set _ n => 0 ≤ n ∧ n ≤ 15
  | _, .add _ t => okT t
  | _, .ask _ t _ => okT t ∧ col = false
  | _, .answer n => (0 ≤ n ∧ n ≤ 1) ∧ col = false
  | _, .grow t => okT t ∧ col = true
  | _, .list t => okT t ∧ col = true
  | f, .whl c b => okT c.t ∧ okB col f b
  | f, .ite c b d => okT c.t ∧ okB col f b ∧ okB col f d
def okB (col : Bool) : Nat → List Stm → Prop
  | _, [] => True
  | 0, _ :: _ => False
  | f + 1, s :: ss => okS col f s ∧ okB col (f + 1) ss
end
mutual
def szS : Stm → Nat
  | .whl _ b => 1 + szB b
  | .ite _ b d => 1 + (szB b + szB d)
  | _ => 1
def szB : List Stm → Nat
  | [] => 0
  | s :: ss => szS s + szB ss
end
theorem szB_append : ∀ a b : List Stm, szB (a ++ b) = szB a + szB b
  | [], b => by rw [List.nil_append, szB]; omega
  | s :: ss, b => by rw [List.cons_append, szB, szB, szB_append ss b]; omega
theorem okB_append {col : Bool} {f : Nat} : ∀ {a b : List Stm}, okB col f a → okB col f b → okB col f (a ++ b)
  | [], _, _, h => h
  | s :: ss, b, h1, h2 => by
    cases f with
    | zero => rw [okB] at h1; exact h1.elim
    | succ f =>
      rw [okB] at h1
      rw [List.cons_append, okB]
      exact ⟨h1.1, okB_append h1.2 h2⟩
def sK (col : Bool) : Str := if col = true then "collector" else "teller"
/-! the instructions -/
inductive In where
  | wait (n : Int) | set (x : Bool) (n : Int) | add (x : Bool) (t : Tm) | ask (s : Di) (t : Tm) (x : Bool) | answer (n : Int) | grow (t : Tm) | list (t : Tm)
  | test (c : Cd) (n : Nat) | jump (n : Nat)
def dI : In → PyData
  | .wait n => .tuple [.str "wait", .int n]
  | .set x n => .tuple [.str "set", .str (dX x), .int n]
  | .add x t => .tuple [.str "add", .str (dX x), dT t]
  | .ask s t x => .tuple [.str "ask", .str (sD s), dT t, .str (dX x)]
  | .answer n => .tuple [.str "answer", .int n]
  | .grow t => .tuple [.str "grow", dT t]
  | .list t => .tuple [.str "list", dT t]
  | .test c n => .tuple [.str "test", dC c, .int (n : Int)]
  | .jump n => .tuple [.str "jump", .int (n : Int)]
mutual
def cS : Nat → Stm → List In
  | _, .wait n => [.wait n]
  | _, .set x n => [.set x n]
  | _, .add x t => [.add x t]
  | _, .ask s t x => [.ask s t x]
  | _, .answer n => [.answer n]
  | _, .grow t => [.grow t]
  | _, .list t => [.list t]
  | n, .whl c b => .test c (n + (cB (n + 1) b).length + 2) :: (cB (n + 1) b ++ [.jump n])
  | n, .ite c b [] => .test c (n + (cB (n + 1) b).length + 1) :: cB (n + 1) b
  | n, .ite c b (s :: ss) => .test c (n + (cB (n + 1) b).length + 2) :: (cB (n + 1) b ++ .jump (n + (cB (n + 1) b).length + 2 + (cS (n + (cB (n + 1) b).length + 2) s ++ cB (n + (cB (n + 1) b).length + 2 + (cS (n + (cB (n + 1) b).length + 2) s).length) ss).length) :: (cS (n + (cB (n + 1) b).length + 2) s ++ cB (n + (cB (n + 1) b).length + 2 + (cS (n + (cB (n + 1) b).length + 2) s).length) ss))
def cB : Nat → List Stm → List In
  | _, [] => []
  | n, s :: ss => cS n s ++ cB (n + (cS n s).length) ss
end
end Nt

namespace Nt
open PySem PySem.Spec PyProof.Rows L2 Evl
/-! ### comprehensions, whatever they do -/
theorem comp_inv {I : Itm} {k : Nat} {t : XT} {e : XE'} {env : En} {D : Nat} (xs : List Vl) (P : Nat → List Vl → Sto → Prop)
    (hI : ∀ i ys S, P i ys S → I.nxt i S = (match xs[i]? with | some x => .yld x S | none => .stop))
    (hs : ∀ i x ys S, xs[i]? = some x → P i ys S → ∃ b S1, t (env.set k (some x)) S = .ok b S1 ∧ ((b = false ∧ P (i + 1) ys S1) ∨ (b = true ∧ ∃ y S2, e (env.set k (some x)) S1 = .ok y S2 ∧ S2[D]? = some (.lst ys) ∧ ys.length < 100000 ∧ P (i + 1) (ys ++ [y]) (S2.set D (.lst (ys ++ [y])))))) :
    ∀ (n i : Nat) (ys : List Vl) (S : Sto), xs.length ≤ n + i → i ≤ xs.length → P i ys S → ∃ ys' S', compZ I (gmName k) t e env D n i S = .ok () S' ∧ P xs.length ys' S'
  | n, i, ys, S, hn, hi, hP => by
    rw [compZ_eq, hI i ys S hP]
    cases hx : xs[i]? with
    | none =>
      have : xs.length ≤ i := List.getElem?_eq_none_iff.mp hx
      have e : i = xs.length := by omega
      subst e
      exact ⟨ys, S, rfl, hP⟩
    | some x =>
      have hl : i < xs.length := (List.getElem?_eq_some_iff.mp hx).1
      cases n with
      | zero => omega
      | succ n =>
        obtain ⟨b, S1, h1, h2⟩ := hs i x ys S hx hP
        dsimp only
        rw [gmName_e]
        dsimp only
        rw [h1]
        dsimp only
        rcases h2 with ⟨rfl, h2⟩ | ⟨rfl, y, S2, h2, h3, h4, h5⟩
        · rw [if_neg Bool.false_ne_true]
          exact comp_inv xs P hI hs n (i + 1) ys S1 (by omega) (by omega) h2
        · rw [if_pos rfl, h2]
          dsimp only
          rw [h3]
          dsimp only
          rw [if_pos h4]
          exact comp_inv xs P hI hs n (i + 1) (ys ++ [y]) _ (by omega) (by omega) h5
theorem lc_inv {I : Itm} {it : En → Sto → Out Itm} {k : Nat} {t : XT} {e : XE'} {vs : List Nat} {env env' : En} {S S1 : Sto} (xs : List Vl) (P : Nat → List Vl → Sto → Prop) (hit : it env S = .ok I S1) (hw : wipeE env vs = env') (hf : I.fuel = xs.length)
    (hI : ∀ i ys S, P i ys S → I.nxt i S = (match xs[i]? with | some x => .yld x S | none => .stop))
    (hs : ∀ i x ys S, xs[i]? = some x → P i ys S → ∃ b S1', t (env'.set k (some x)) S = .ok b S1' ∧ ((b = false ∧ P (i + 1) ys S1') ∨ (b = true ∧ ∃ y S2, e (env'.set k (some x)) S1' = .ok y S2 ∧ S2[S1.length]? = some (.lst ys) ∧ ys.length < 100000 ∧ P (i + 1) (ys ++ [y]) (S2.set S1.length (.lst (ys ++ [y]))))))
    (h0 : P 0 [] (S1 ++ [.lst []])) : ∃ ys S', xLc it (gmName k) t e vs env S = .ok (.ref S1.length) S' ∧ P xs.length ys S' := by
  obtain ⟨ys, S', h1, h2⟩ := comp_inv (I := I) (k := k) (t := t) (e := e) (env := env') (D := S1.length) xs P hI hs xs.length 0 [] _ (by omega) (by omega) h0
  refine ⟨ys, S', ?_, h2⟩
  unfold xLc
  rw [hit, Out.bind_ok, hw, hf, h1]; rfl
/-- integers of a list by a test that changes nothing -/
theorem lc_filter {it : En → Sto → Out Itm} {j k : Nat} {t : XT} {vs : List Nat} {env env' : En} {S : Sto} {ms : List Int} (f : Int → Bool) (hit : it env S = .ok (itL j (ms.map Vl.int).length) S) (hw : wipeE env vs = env') (hj : S[j]? = some (.lst (ms.map .int))) (hl : ms.length < 90000) (hk : k < env'.length)
    (ht : ∀ acc p, p ∈ ms → t (env'.set k (some (.int p))) (S ++ [.lst acc]) = .ok (f p) (S ++ [.lst acc])) : xLc it (gmName k) t (xVar k) vs env S = .ok (.ref S.length) (S ++ [.lst ((ms.filter f).map .int)]) := by
  have hlt := get_lt hj
  obtain ⟨ys, S', h1, h2, h3⟩ := lc_inv (I := itL j (ms.map Vl.int).length) (k := k) (t := t) (e := xVar k) (vs := vs) (env := env) (env' := env') (ms.map Vl.int) (fun i ys S' => ys = ((ms.take i).filter f).map .int ∧ S' = S ++ [.lst ys]) hit hw rfl
    (fun i ys S' ⟨_, h⟩ => by
      subst h
      exact nxt_L (get_app hj))
    (fun i x ys S' hx ⟨hy, h⟩ => by
      subst h
      rw [List.getElem?_map] at hx
      cases hm : ms[i]? with
      | none => rw [hm] at hx; cases hx
      | some p =>
        rw [hm] at hx
        cases hx
        have hp := List.mem_of_getElem? hm
        have htk : ms.take (i + 1) = ms.take i ++ [p] := by rw [List.take_add_one, hm]; rfl
        refine ⟨f p, _, ht ys p hp, ?_⟩
        cases hf : f p with
        | false =>
          refine .inl ⟨rfl, ?_, rfl⟩
          rw [htk, List.filter_append, List.filter_cons, if_neg (by rw [hf]; exact Bool.false_ne_true), List.filter_nil, List.append_nil]
          exact hy
        | true =>
          refine .inr ⟨rfl, .int p, S ++ [.lst ys], ?_, get_new, ?_, ?_, ?_⟩
          · show kVar ((env'.set k (some (Vl.int p)))[k]?) _ = _
            rw [List.getElem?_set, if_pos rfl, if_pos hk]; rfl
          · rw [hy, List.length_map]
            have h1 := List.length_filter_le f (ms.take i)
            have h2 := List.length_take_le i ms
            have h3 := List.length_take_le' i ms
            omega
          · rw [hy, htk, List.filter_append, List.filter_cons, if_pos hf, List.filter_nil, List.map_append]; rfl
          · rw [set_new])
    ⟨by simp, rfl⟩
  rw [h1, h3, h2, List.length_map, List.take_length]
/-! ### what is equal, what is in -/
theorem eqv_int {i j : Int} : PyData.eqv (.int i) (.int j) = decide (i = j) := by rw [PyData.eqv]; by_cases h : i = j <;> simp [h]
theorem allD_int {S : Sto} {n : Nat} : ∀ {l : List Int}, allD (toD (n + 1) S) (l.map Vl.int) = some (l.map PyData.int)
  | [] => rfl
  | k :: l => by rw [List.map_cons, allD, allD_int]; rfl
theorem in_ints {neg : Bool} {p : Int} {ms : List Int} {S : Sto} : seqIn neg (.int p) (ms.map .int) S = .ok (.bl (neg ^^ decide (p ∈ ms))) S := by
  unfold seqIn
  rw [allD_int]
  show Out.ok (Vl.bl (neg ^^ (ms.map PyData.int).any fun z => PyData.eqv z (.int p))) S = _
  have h : ((ms.map PyData.int).any fun z => PyData.eqv z (.int p)) = decide (p ∈ ms) := by
    rw [List.any_map]
    by_cases h : p ∈ ms
    · rw [decide_eq_true h, List.any_eq_true]
      exact ⟨p, h, by show PyData.eqv (.int p) (.int p) = true; rw [eqv_int]; simp⟩
    · rw [decide_eq_false h, List.any_eq_false]
      intro q hq e
      have e : PyData.eqv (.int q) (.int p) = true := e
      rw [eqv_int] at e
      exact h (of_decide_eq_true e ▸ hq)
  rw [h]
theorem toD_ints {S : Sto} {l : Nat} {ms : List Int} (h : S[l]? = some (.lst (ms.map .int))) : toD 60 S (.ref l) = some (.list (ms.map .int)) := by
  show (match S[l]? with
    | some (.lst xs) => (allD (toD 59 S) xs).map PyData.list
    | _ => none) = _
  rw [h]
  dsimp only
  rw [allD_int]; rfl
theorem eqvL_ints : ∀ (l m : List Int), PyData.eqvAll (l.map .int) (m.map .int) = decide (l = m)
  | [], [] => by rw [List.map_nil, PyData.eqvAll]; rfl
  | [], b :: m => by rw [List.map_nil, List.map_cons, PyData.eqvAll]; rfl
  | a :: l, [] => by rw [List.map_nil, List.map_cons, PyData.eqvAll]; rfl
  | a :: l, b :: m => by
    rw [List.map_cons, List.map_cons, PyData.eqvAll, eqv_int, eqvL_ints l m]
    by_cases h1 : a = b <;> by_cases h2 : l = m <;> simp [h1, h2]
theorem vNe_bl {a b : Bool} {S : Sto} : vNe (.bl a) (.bl b) S = .ok (.bl (a ^^ b)) S := by
  show Out.ok (Vl.bl (!PyData.eqv (.bool a) (.bool b))) S = _
  rw [PyData.eqv]
  cases a <;> cases b <;> rfl
theorem vNe_li {S : Sto} {i j : Nat} {l m : List Int} (h1 : S[i]? = some (.lst (l.map .int))) (h2 : S[j]? = some (.lst (m.map .int))) : vNe (.ref i) (.ref j) S = .ok (.bl (!decide (l = m))) S := by
  unfold vNe
  rw [toD_ints h1, toD_ints h2]
  dsimp only
  rw [PyData.eqv, eqvL_ints]
theorem vEq_li {S : Sto} {i j : Nat} {l m : List Int} (h1 : S[i]? = some (.lst (l.map .int))) (h2 : S[j]? = some (.lst (m.map .int))) : vEq (.ref i) (.ref j) S = .ok (.bl (decide (l = m))) S := by
  unfold vEq
  rw [toD_ints h1, toD_ints h2]
  dsimp only
  rw [PyData.eqv, eqvL_ints]
/-- a comprehension over a list that changes nothing -/
theorem lc_map {it : En → Sto → Out Itm} {j k : Nat} {e : XE'} {vs : List Nat} {env env' : En} {S : Sto} {xs : List Vl} (f : Vl → Vl) (hit : it env S = .ok (itL j xs.length) S) (hw : wipeE env vs = env') (hj : S[j]? = some (.lst xs)) (hl : xs.length < 90000)
    (he : ∀ acc x, x ∈ xs → e (env'.set k (some x)) (S ++ [.lst acc]) = .ok (f x) (S ++ [.lst acc])) : xLc it (gmName k) yYes e vs env S = .ok (.ref S.length) (S ++ [.lst (xs.map f)]) := by
  obtain ⟨ys, S', h1, h2, h3⟩ := lc_inv (I := itL j xs.length) (k := k) (t := yYes) (e := e) (vs := vs) (env := env) (env' := env') xs (fun i ys S' => ys = (xs.take i).map f ∧ S' = S ++ [.lst ys]) hit hw rfl
    (fun i ys S' ⟨_, h⟩ => by
      subst h
      exact nxt_L (get_app hj))
    (fun i x ys S' hx ⟨hy, h⟩ => by
      subst h
      have htk : xs.take (i + 1) = xs.take i ++ [x] := by rw [List.take_add_one, hx]; rfl
      refine ⟨true, _, rfl, .inr ⟨rfl, f x, S ++ [.lst ys], he ys x (List.mem_of_getElem? hx), get_new, ?_, ?_, ?_⟩⟩
      · rw [hy, List.length_map]
        have h3 := List.length_take_le' i xs
        omega
      · rw [hy, htk, List.map_append]; rfl
      · rw [set_new])
    ⟨rfl, rfl⟩
  rw [h1, h3, h2, List.take_length]
theorem toBools_t : ∀ {xs : List Vl}, toBools (xs.map fun _ => Vl.bl true) = some (xs.map fun _ => true)
  | [] => rfl
  | x :: xs => by
    show (toBools (xs.map fun _ => Vl.bl true)).map (true :: ·) = _
    rw [toBools_t]; rfl
theorem all_tt {α : Type} : ∀ {xs : List α}, (xs.map fun _ => true).all id = true
  | [] => rfl
  | x :: xs => by rw [List.map_cons, List.all_cons, all_tt]; rfl
theorem vAll_tt {S : Sto} {xs : List Vl} : vAll [.ref S.length] (S ++ [.lst (xs.map fun _ => Vl.bl true)]) = .ok (.bl true) (S ++ [.lst (xs.map fun _ => Vl.bl true)]) := by
  unfold vAll
  dsimp only
  rw [get_new]
  dsimp only
  rw [toBools_t]
  dsimp only
  rw [all_tt]
theorem get_keep {S T : Sto} {i j : Nat} {o p : Ob} (h : S[j]? = some o) (n : i ≠ j) (e : S.set i p = T) : T[j]? = some o := by
  rw [← e, get_set_ne n]; exact h
/-- comprehensions with any target -/
theorem comp_invG {I : Itm} {g : GM} {t : XT} {e : XE'} {env : En} {D : Nat} (xs : List Vl) (P : Nat → List Vl → Sto → Prop)
    (hI : ∀ i ys S, P i ys S → I.nxt i S = (match xs[i]? with | some x => .yld x S | none => .stop))
    (hs : ∀ i x ys S, xs[i]? = some x → P i ys S → ∃ e1 b S1, g x env S = .ok e1 S ∧ t e1 S = .ok b S1 ∧ ((b = false ∧ P (i + 1) ys S1) ∨ (b = true ∧ ∃ y S2, e e1 S1 = .ok y S2 ∧ S2[D]? = some (.lst ys) ∧ ys.length < 100000 ∧ P (i + 1) (ys ++ [y]) (S2.set D (.lst (ys ++ [y])))))) :
    ∀ (n i : Nat) (ys : List Vl) (S : Sto), xs.length ≤ n + i → i ≤ xs.length → P i ys S → ∃ ys' S', compZ I g t e env D n i S = .ok () S' ∧ P xs.length ys' S'
  | n, i, ys, S, hn, hi, hP => by
    rw [compZ_eq, hI i ys S hP]
    cases hx : xs[i]? with
    | none =>
      have : xs.length ≤ i := List.getElem?_eq_none_iff.mp hx
      have e : i = xs.length := by omega
      subst e
      exact ⟨ys, S, rfl, hP⟩
    | some x =>
      have hl : i < xs.length := (List.getElem?_eq_some_iff.mp hx).1
      cases n with
      | zero => omega
      | succ n =>
        obtain ⟨e1, b, S1, h0, h1, h2⟩ := hs i x ys S hx hP
        dsimp only
        rw [h0]
        dsimp only
        rw [h1]
        dsimp only
        rcases h2 with ⟨rfl, h2⟩ | ⟨rfl, y, S2, h2, h3, h4, h5⟩
        · rw [if_neg Bool.false_ne_true]
          exact comp_invG xs P hI hs n (i + 1) ys S1 (by omega) (by omega) h2
        · rw [if_pos rfl, h2]
          dsimp only
          rw [h3]
          dsimp only
          rw [if_pos h4]
          exact comp_invG xs P hI hs n (i + 1) (ys ++ [y]) _ (by omega) (by omega) h5
theorem lc_invG {I : Itm} {it : En → Sto → Out Itm} {g : GM} {t : XT} {e : XE'} {vs : List Nat} {env env' : En} {S S1 : Sto} (xs : List Vl) (P : Nat → List Vl → Sto → Prop) (hit : it env S = .ok I S1) (hw : wipeE env vs = env') (hf : I.fuel = xs.length)
    (hI : ∀ i ys S, P i ys S → I.nxt i S = (match xs[i]? with | some x => .yld x S | none => .stop))
    (hs : ∀ i x ys S, xs[i]? = some x → P i ys S → ∃ e1 b S1', g x env' S = .ok e1 S ∧ t e1 S = .ok b S1' ∧ ((b = false ∧ P (i + 1) ys S1') ∨ (b = true ∧ ∃ y S2, e e1 S1' = .ok y S2 ∧ S2[S1.length]? = some (.lst ys) ∧ ys.length < 100000 ∧ P (i + 1) (ys ++ [y]) (S2.set S1.length (.lst (ys ++ [y]))))))
    (h0 : P 0 [] (S1 ++ [.lst []])) : ∃ ys S', xLc it g t e vs env S = .ok (.ref S1.length) S' ∧ P xs.length ys S' := by
  obtain ⟨ys, S', h1, h2⟩ := comp_invG (I := I) (g := g) (t := t) (e := e) (env := env') (D := S1.length) xs P hI hs xs.length 0 [] _ (by omega) (by omega) h0
  refine ⟨ys, S', ?_, h2⟩
  unfold xLc
  rw [hit, Out.bind_ok, hw, hf, h1]; rfl
/-- pairs of a list by a test that changes nothing -/
theorem lc_pairs {α : Type} {it : En → Sto → Out Itm} {j : Nat} {g : GM} {t : XT} {e : XE'} {vs : List Nat} {env env' : En} {S : Sto} {xs : List α} {f : α → Vl} (p : α → Bool) (h : α → Vl) (hit : it env S = .ok (itL j (xs.map f).length) S) (hw : wipeE env vs = env') (hj : S[j]? = some (.lst (xs.map f))) (hl : xs.length < 90000)
    (hs : ∀ acc x, x ∈ xs → ∃ e1, g (f x) env' (S ++ [.lst acc]) = .ok e1 (S ++ [.lst acc]) ∧ t e1 (S ++ [.lst acc]) = .ok (p x) (S ++ [.lst acc]) ∧ e e1 (S ++ [.lst acc]) = .ok (h x) (S ++ [.lst acc])) : xLc it g t e vs env S = .ok (.ref S.length) (S ++ [.lst ((xs.filter p).map h)]) := by
  obtain ⟨ys, S', h1, h2, h3⟩ := lc_invG (I := itL j (xs.map f).length) (g := g) (t := t) (e := e) (vs := vs) (env := env) (env' := env') (xs.map f) (fun i ys S' => ys = ((xs.take i).filter p).map h ∧ S' = S ++ [.lst ys]) hit hw rfl
    (fun i ys S' ⟨_, z⟩ => by
      subst z
      exact nxt_L (get_app hj))
    (fun i x ys S' hx ⟨hy, z⟩ => by
      subst z
      rw [List.getElem?_map] at hx
      cases hm : xs[i]? with
      | none => rw [hm] at hx; cases hx
      | some x' =>
        rw [hm] at hx
        cases hx
        have hp := List.mem_of_getElem? hm
        have htk : xs.take (i + 1) = xs.take i ++ [x'] := by rw [List.take_add_one, hm]; rfl
        obtain ⟨e1, g1, g2, g3⟩ := hs ys x' hp
        refine ⟨e1, p x', _, g1, g2, ?_⟩
        cases hf : p x' with
        | false =>
          refine .inl ⟨rfl, ?_, rfl⟩
          rw [htk, List.filter_append, List.filter_cons, if_neg (by rw [hf]; exact Bool.false_ne_true), List.filter_nil, List.append_nil]
          exact hy
        | true =>
          refine .inr ⟨rfl, h x', S ++ [.lst ys], g3, get_new, ?_, ?_, ?_⟩
          · rw [hy, List.length_map]
            have h1 := List.length_filter_le p (xs.take i)
            have h3 := List.length_take_le' i xs
            omega
          · rw [hy, htk, List.filter_append, List.filter_cons, if_pos hf, List.filter_nil, List.map_append]; rfl
          · rw [set_new])
    ⟨by simp, rfl⟩
  rw [h1, h3, h2, List.length_map, List.take_length]
end Nt

namespace Nt
open PySem PySem.Spec PyProof.Rows L2 Evl
/-! ### a for loop that may return -/
theorem forZ_ret {I : Itm} {g : GM} {f : ZS} (xs : List Vl) (P : Nat → En → Sto → Prop) (Q : Vl → Sto → Prop) (hI : ∀ i env S, P i env S → I.nxt i S = (match xs[i]? with | some x => .yld x S | none => .stop))
    (hs : ∀ i x env S, xs[i]? = some x → P i env S → ∃ e1 S1, g x env S = .ok e1 S1 ∧ ((∃ e2 S2, (f e1 S1 = .ok (.nx e2) S2 ∨ f e1 S1 = .ok (.ct e2) S2) ∧ P (i + 1) e2 S2) ∨ (∃ v S2, f e1 S1 = .ok (.rt v) S2 ∧ Q v S2))) :
    ∀ (n i : Nat) env S, xs.length ≤ n + i → i ≤ xs.length → P i env S → (∃ e S', forZ I g f n i env S = .ok (.nx e) S' ∧ P xs.length e S') ∨ (∃ v S', forZ I g f n i env S = .ok (.rt v) S' ∧ Q v S')
  | n, i, env, S, hn, hi, hP => by
    rw [forZ_eq, hI i env S hP]
    cases hx : xs[i]? with
    | none =>
      have : xs.length ≤ i := List.getElem?_eq_none_iff.mp hx
      have e : i = xs.length := by omega
      subst e
      exact .inl ⟨env, S, rfl, hP⟩
    | some x =>
      have hl : i < xs.length := (List.getElem?_eq_some_iff.mp hx).1
      cases n with
      | zero => omega
      | succ n =>
        obtain ⟨e1, S1, h1, h2⟩ := hs i x env S hx hP
        dsimp only
        rw [h1]
        rcases h2 with ⟨e2, S2, h2, h3⟩ | ⟨v, S2, h2, h3⟩
        · have h4 := forZ_ret xs P Q hI hs n (i + 1) e2 S2 (by omega) (by omega) h3
          rcases h2 with h2 | h2 <;> (simp only [Out.bindS_ok, h2]; exact h4)
        · exact .inr ⟨v, S2, by simp only [Out.bindS_ok, h2], h3⟩
theorem cut_take {α : Type} {xs : List α} {k : Nat} : cutL xs none (some (k : Int)) = xs.take k := by
  unfold cutL HT.sIx
  dsimp only
  rw [List.drop_zero, Nat.sub_zero]
  have : ¬ ((k : Int) < 0) := by omega
  rw [if_neg this]
  rcases Nat.le_total k xs.length with h | h
  · congr 1; omega
  · rw [List.take_of_length_le (by omega), List.take_of_length_le h]
theorem last2 {α : Type} {x y : α} : atI [x, y] (-1) = some y := by
  unfold atI ixN
  rfl
theorem last3 {α : Type} {x y z : α} : atI [x, y, z] (-1) = some z := by
  unfold atI ixN
  rfl
end Nt

namespace Nt
open PySem PySem.Spec PyProof.Rows L2
/-! ### defs that are called where no repr is under way -/
structure FnOkG (P : Program) (w : World) (K : PySem.W.Frag) (mg : Str → Option Value) (base : Heap) (CX : CXT) (k : Nat) (f : Addr) (fd : FuncData) (ps : List Str) (sp : Sp) : Prop where
  len : ∀ ws H Q E, sp ws H Q E → ws.length = ps.length
  run : ∀ (A : Around) (outer : List Env) (s : Shared) (H : Hp) (args : Args) (us : List Value) (vs : List V) (Q : VK) (E : XK), A.guards = some [] → Room k A → Env0 P w K mg base A outer s H → BindsTo s fd args (ps.zip us) → Vals vs us → sp vs H Q E → codeAny (model P w) A (.call (.ref f) args) (CR CX outer P w H s Q E) s
theorem okG {P : Program} {w : World} {K : PySem.W.Frag} {mg : Str → Option Value} {base : Heap} {CX : CXT} {k : Nat} {f : Addr} {fd : FuncData} {ps : List Str} {sp : Sp} (F : FnOk P w K mg base CX k f fd ps sp) : FnOkG P w K mg base CX k f fd ps sp :=
  ⟨F.len, fun A outer s H args us vs Q E _ hr => F.run A outer s H args us vs Q E hr⟩
theorem FnOkG.mono {P : Program} {w : World} {K : PySem.W.Frag} {mg : Str → Option Value} {base : Heap} {CX : CXT} {j k : Nat} {f : Addr} {fd : FuncData} {ps : List Str} {sp : Sp} (F : FnOkG P w K mg base CX j f fd ps sp) (h : j ≤ k) : FnOkG P w K mg base CX k f fd ps sp :=
  ⟨F.len, fun A outer s H args us vs Q E hg hr => F.run A outer s H args us vs Q E hg (hr.mono h)⟩
/-- by the body -/
theorem fnG_by {CX : CXT} {P : Program} {w : World} {K : PySem.W.Frag} {mg : Str → Option Value} {base : Heap} {k : Nat} {f : Addr} {x qual : Str} {params : Arguments} {body : List Stmt} {scope : Scope} {dvs : List V} {kws : List (Str × V)} {fd : FuncData} {L ps : List Str} {sp : Sp}
    (F : FunD K x qual params body scope dvs kws f fd) (S : FnScope L ps scope) (len : ∀ vs H Q E, sp vs H Q E → vs.length = ps.length)
    (hb : ∀ (cdv : Value) (A : Around) (outer : List Env) (s : Shared) (H : Hp) (vs : List V) (Q : VK) (E : XK), A.guards = some [] → Room k (A.deeper (envOfC qual scope s.heap.objs.size f cdv)) → sp vs H Q E →
      ∃ t, PSs (cxOf CX P w K mg base L qual scope f cdv A outer s H E) body t ∧ t { nx := fun _ H' => Q .non H', rt := Q } (start L vs) H) : FnOkG P w K mg base CX (k + 1) f fd ps sp := by
  obtain ⟨oc, od, dV, kV, doc, pm, an, cdv, ct, osl, rfl, lk, hcd, _, _⟩ := F.ex
  constructor
  · exact len
  intro A outer s H args us vs Q E hg hr e0 hbi rel hsp
  have hIn : K.In s.heap := e0.mod.kin.keeps fun b o z => (e0.bs b o z).1
  have hLim : s.heap.NoLimit := e0.mod.nolimit.keeps fun b o z => (e0.bs b o z).1
  have kinds : ∀ y ∈ ps.zip us, scope.names.lookup y.1 = some .local ∨ (scope.names.lookup y.1 = some .cell ∧ ((cellsFrom (s.heap.objs.size + 1) scope.names []).lookup y.1).isSome = true) := by
    rintro ⟨n, v⟩ hy
    cases S.par n (List.of_mem_zip hy).1 with
    | inl q => left; exact q
    | inr q => right; exact ⟨q, PySem.W.cellsFrom_some _ _ _ (.inl q)⟩
  apply codeAny_call_function hr.depth (hIn _ _ lk) rfl S.co S.gen rfl (PySem.W.codeRec_of hIn hcd)
  apply hbi
  apply wpAny_newFunctionEnv_cells S.kind kinds
  intro env ee s1 hx
  cases ee
  refine ⟨hLim.keeps hx.toInCall.keep, codeAny_func ?_⟩
  obtain ⟨t, pt, qt⟩ := hb cdv A outer s H vs Q E hg (hr.deeper _) hsp
  have I := inv_start (CX := CX) (E := E) S hr.hd e0 (len _ _ _ _ hsp) rel hx
  refine wpAny_mono (pt.run [] s1 _ H _ I qt) (fun fl s' hs => ?_) (fun e s' hs => hs)
  cases fl with
  | ret u => obtain ⟨v, σ', H', J, rv, q⟩ := hs; exact ⟨v, H', J.os, J.bare, J.base, J.hok, rv, q⟩
  | next => obtain ⟨σ', H', J, q⟩ := hs; exact ⟨.non, H', J.os, J.bare, J.base, J.hok, rfl, q⟩
  | brk => exact hs.elim fun _ z => z.elim fun _ z => z.2.elim
  | cont => exact hs.elim fun _ z => z.elim fun _ z => z.2.elim
structure FnMG (N : Nms) (P : Program) (w : World) (K : PySem.W.Frag) (mg : Str → Option Value) (base : Heap) (CX : CXT) (k : Nat) (f : Addr) (T : FuncData → Prop) (ps : List Str) (mf : List Vl → Sto → Out Vl) : Prop where
  ex : ∃ fd, T fd ∧ PySem.W.keepIn K (.ref f) = true ∧ FnOkG P w K mg base CX k f fd ps (spM N K ps.length mf)
theorem FnMG.mono {N : Nms} {P : Program} {w : World} {K : PySem.W.Frag} {mg : Str → Option Value} {base : Heap} {CX : CXT} {j k : Nat} {f : Addr} {T : FuncData → Prop} {ps : List Str} {mf : List Vl → Sto → Out Vl} (D : FnMG N P w K mg base CX j f T ps mf) (h : j ≤ k) : FnMG N P w K mg base CX k f T ps mf := by
  obtain ⟨fd, h1, h2, h3⟩ := D.ex
  exact ⟨fd, h1, h2, h3.mono h⟩
section
variable {N : Nms} {P : Program} {w : World} {K : PySem.W.Frag} {mg : Str → Option Value} {base : Heap} {x qual : Str} {params : Arguments} {body : List Stmt} {scope : Scope} {dvs : List V} {kws : List (Str × V)} {L ps : List Str} {k : Nat} {f : Addr} {b : ZS}
theorem fn_mk0G (F : ∃ fd, FunD K x qual params body scope dvs kws f fd) (S : FnScope L ps scope)
    (hbody : ∀ (cdv : Value) (A : Around) (outer : List Env) (s : Shared) (H : Hp) (E : XK), A.guards = some [] → Room k (A.deeper (envOfC qual scope s.heap.objs.size f cdv)) → SSs N (cxOf CX0 P w K mg base L qual scope f cdv A outer s H E) (fun _ => E0) body b) (h0 : N.xh = none := by rfl) :
    FnMG N P w K mg base CX0 (k + 1) f (FunD K x qual params body scope dvs kws f) ps (runB0 L.length b) := by
  obtain ⟨fd, F⟩ := F
  refine ⟨fd, F, F.kp, fnG_by F S (fun vs H Q E h => ?_) fun cdv A outer s H vs Q E hg hr h => ?_⟩
  · obtain ⟨m, S', args, h1, _, h3, _⟩ := h
    rw [← h3.len]; exact h1
  · obtain ⟨m, S', args, h1, h2, h3, h4⟩ := h
    obtain ⟨t, p, sm⟩ := (hbody cdv A outer s H E hg hr).ex
    refine ⟨t, p, sm m S' H _ _ _ h2 (enter_ok h0 h3) ?_⟩
    unfold runB0 at h4
    cases q : b (enter L.length args) S' with
    | ok v S1 =>
      rw [q] at h4
      cases v with
      | nx e => exact fun m' H' σ' e' s' r' => h4 m' H' .non e' s' .non
      | rt v => exact h4
      | bk e => exact h4.elim
      | ct e => exact h4.elim
      | er c x e => exact h4.elim
    | err c x S1 => rw [q] at h4; exact h4.elim
    | bad => rw [q] at h4; exact h4.elim
theorem fn_mkXG (F : ∃ fd, FunD K x qual params body scope dvs kws f fd) (S : FnScope L ps scope)
    (hbody : ∀ (cdv : Value) (A : Around) (outer : List Env) (s : Shared) (H : Hp) (E : XK), A.guards = some [] → Room k (A.deeper (envOfC qual scope s.heap.objs.size f cdv)) → SSs N (cxOf (L2N.CX P w) P w K mg base L qual scope f cdv A outer s H E) (fun _ => E) body b) (h0 : N.xh = none := by rfl) :
    FnMG N P w K mg base (L2N.CX P w) (k + 1) f (FunD K x qual params body scope dvs kws f) ps (runBX L.length b) := by
  obtain ⟨fd, F⟩ := F
  refine ⟨fd, F, F.kp, fnG_by F S (fun vs H Q E h => ?_) fun cdv A outer s H vs Q E hg hr h => ?_⟩
  · obtain ⟨m, S', args, h1, _, h3, _⟩ := h
    rw [← h3.len]; exact h1
  · obtain ⟨m, S', args, h1, h2, h3, h4⟩ := h
    obtain ⟨t, p, sm⟩ := (hbody cdv A outer s H E hg hr).ex
    refine ⟨t, p, sm m S' H _ _ _ h2 (enter_ok h0 h3) ?_⟩
    unfold runBX at h4
    cases q : b (enter L.length args) S' with
    | ok v S1 =>
      rw [q] at h4
      cases v with
      | nx e => exact fun m' H' σ' e' s' r' => h4 m' H' .non e' s' .non
      | rt v => exact h4
      | bk e => exact h4.elim
      | ct e => exact h4.elim
      | er c x e => exact fun m' H' d σ' e' s' _ x' => h4 m' H' d e' s' x'
    | err c x S1 => rw [q] at h4; exact h4.elim
    | bad => rw [q] at h4; exact h4.elim
end
section
variable {N : Nms} {X : Cx} {W : L2.St → XK} {e o : Expr} {es : List Expr} {fa fb : XE'} {f : XB} {pos p apos : Pos} {x md : Str} {kws : List Keyword} {ks ps : List Str} {CX : CXT} {k n : Nat} {fA : Addr} {T : FuncData → Prop} {mf : List Vl → Sto → Out Vl} {gL : List Vl → List Vl → List Vl} {fd : FuncData} {sp : Sp} {g : List Value → List Value → List Value} {gV : List V → List V → List V}
theorem run_fnGG {pins : List (Addr × Obj)} {σ : L2.St} {H : Hp} {s : Shared} {Q : VK} {E : XK} {us ws : List Value} {vs zs : List V} (F : FnOkG X.prog X.w X.K X.mg X.base CX k fA fd ps sp) (hgd : X.A.guards = some []) (hr : Room k X.A) (hb : KBn X.K fd ps n ks g gV) (hx : PassesAt CX X σ E)
    (I : Inv X pins σ H s) (r : Vals vs us) (rz : Vals zs ws) (l1 : vs.length = n) (l2 : zs.length = ks.length) (h : sp (gV vs zs) H Q E) : wpAny (model X.prog X.w) X.A (call (.ref fA) us (ks.zip ws)) (EP X pins σ Q) X.xe s := by
  have r2 := hb.rel r rz
  refine wpAny_call (codeAny_mono (F.run X.A X.stack s H ⟨us, ks.zip ws⟩ (g us ws) (gV vs zs) Q E hgd hr I.env0 (hb.to s us ws I.kIn (r.length.symm.trans l1) (rz.length.symm.trans l2)) r2 h) fun r s' hq => ?_)
  cases r with
  | error e => exact hx pins H s e s' I hq
  | ok fl =>
    cases fl with
    | ret u => exact I.after hq
    | next => exact False.elim hq
    | brk => exact False.elim hq
    | cont => exact False.elim hq
theorem se_callG (F : FnMG N X.prog X.w X.K X.mg X.base CX k fA T ps mf) (B : Bd N X.K T ps n ks gL) (hgd : X.A.guards = some []) (hr : Room k X.A) (hg : Gl X x) (hm : X.mg x = some (.ref fA)) (hx : ∀ σ, PassesAt CX X σ (W σ)) (ha : SB N X W es kws pos ks f)
    (hdb : (x == ("__debug__" : Str)) = false := by decide) : SE N X W (.Call (.Name x p) es kws pos) (xCall n ps.length gL ks.length mf f) := by
  obtain ⟨fd, hT, hk, F⟩ := F.ex
  obtain ⟨g, gV, hb, hc⟩ := B fd hT
  obtain ⟨tb, p1, s1⟩ := ha.ex
  refine ⟨fun σ H Q => tb σ H fun vz H1 => vz.1.length = n ∧ vz.2.length = ks.length ∧ spM N X.K ps.length mf (gV vz.1 vz.2) H1 Q (W σ), ⟨fun pins s σ H Q I h => ?_⟩, fun m S H env σ Q s er h => s1.step s er h fun xz S1 m1 H1 u e1 sr1 r1 er1 h1 => ?_⟩
  · refine wpAny_Call_Name_kw (ld_glob I hg hm ?_ hdb)
    exact p1.run _ [] pins s σ H _ _ hk I h fun us ws vs zs s' H' I' r rz q => run_fnGG F hgd hr hb (hx σ) I' r rz q.1 q.2.1 q.2.2
  · split at h1
    · rename_i hl
      exact ⟨by rw [← r1.1.len]; exact hl.1, by rw [← r1.2.len]; exact hl.2.1, m1, S1, _, hl.2.2, sr1, hc m1 H1 _ _ _ _ r1.1 r1.2, h1⟩
    · exact h1.elim
end
/-! ### repr of data -/
def rRepr (K : PySem.W.Frag) : List V → Hp → VK → Prop := fun xs H Q => ∃ x d, xs = [x] ∧ Dp K H x d ∧ d.showable = true ∧ d.hasDict = false ∧ d.depth ≤ 60 ∧ d.shown.length ≤ sizeLine ∧ Q (.str d.shown) H
section
variable {N : Nms} {X : Cx}
theorem cr_repr (hg : X.A.guards = some []) (hu : X.A.units + 64 < cLine) : CallR X (.builtin "repr") (rRepr X.K) := by
  intro pins s σ H xs us Q I r h
  obtain ⟨x, d, rfl, hd, hs, hn, hk, hz, q⟩ := h
  obtain ⟨u, rfl, ru⟩ := vals1 r
  obtain ⟨as, rd⟩ := Dp.reads I d x u hd ru
  cases u with
  | ref a => exact repr_of_reads' rd hs (PyData.noDict_hsm hn) hg (by omega) (fun _ _ z => z) (fun h' u tk hk => ⟨.str _, H, I.kept hk, ⟨_, rfl⟩, q⟩) hz
  | int i t =>
    cases rd
    rw [PyData.showable] at hs
    rw [PyData.shown] at q
    exact PySem.P.repr_of_int (of_decide_eq_true hs) ⟨.str _, H, I.tok _, ⟨_, rfl⟩, q⟩
  | str y t =>
    cases rd
    rw [PyData.shown] at q hz
    exact PySem.P.repr_of_str ⟨.str _, H, I.tok _, ⟨_, rfl⟩, q⟩ hz
  | bool b =>
    cases rd
    rw [PyData.shown] at q
    exact PySem.P.repr_of_bool ⟨.str _, H, I.tok _, ⟨_, rfl⟩, q⟩
  | none =>
    cases rd
    rw [PyData.shown] at q
    exact PySem.P.repr_of_none ⟨.str _, H, I.tok _, ⟨_, rfl⟩, q⟩
  | _ => cases rd
def vRepr : List Vl → Sto → Out Vl
  | [x], S => match toD 60 S x with
    | some d => if d.showable = true ∧ d.hasDict = false ∧ d.depth ≤ 60 ∧ d.shown.length ≤ sizeLine then .ok (.str d.shown) S else .bad
    | none => .bad
  | _, _ => .bad
theorem cm_repr (hg : X.A.guards = some []) (hu : X.A.units + 64 < cLine) : CallM N X (.builtin "repr") vRepr := by
  refine ⟨_, cr_repr hg hu, fun m S H xs us Q E s r h => ?_⟩
  unfold vRepr at h
  split at h
  · rename_i x
    obtain ⟨u, rfl, ru⟩ := r.one
    split at h
    · rename_i d hd
      split at h
      · rename_i hc
        exact ⟨u, d, rfl, toD_dp s _ _ _ _ hd ru, hc.1, hc.2.1, hc.2.2.1, hc.2.2.2, h.ok s (.str _)⟩
      · exact h.elim
    · exact h.elim
  · exact h.elim
end
theorem boot_repr : bootBuiltins "repr" = some (.builtin "repr") := by decide +kernel
end Nt

namespace Nt
open PySem PySem.Spec PyProof.Rows L2
/-! ### the law's own call, where no repr is under way -/
section
variable {P : Program} {w : World} {K : PySem.W.Frag} {mg mb : Str → Option Value} {CX : CXT} {k : Nat} {fa a : Addr} {fd : FuncData} {x : Str} {sp : Sp} {s₁ : Shared} {vs : List Value} {ns : List Int}
/-- the call tells True -/
def TrueG (P : Program) (w : World) (fa a : Addr) (s₁ : Shared) : Prop := codeAny (model P w) callerA (.call (.ref fa) ⟨[.ref a], []⟩) (fun r s' => r = .ok (.ret (.bool true)) ∧ OldK s₁.heap s'.heap ∧ s'.os = s₁.os ∧ AllBare s'.gens) s₁
/-- H holds nothing but the script -/
structure Sole (K : PySem.W.Frag) (H : Hp) (a : Addr) : Prop where
  only : ∀ b, H b ≠ none → b = a
  new : H a ≠ none → K.lookup a = none
theorem Sole.none_of {H : Hp} (h : Sole K H a) {b : Addr} (hb : b ≠ a) : H b = none := Classical.byContradiction fun z => hb (h.only b z)
theorem coreG (KX : K.In s₁.heap) (hns : s₁.heap.Ns mainGlobals mg) (hb : s₁.heap.Ns builtinsNs mb) (hbb : ∀ x : Str, x ≠ "__name__" → mb x = bootBuiltins x) (hlim : s₁.heap.NoLimit) (hg : s₁.gens = #[])
    (ha : s₁.heap.get? a = some { cls := .type "list", data := .seq vs.toArray }) (hr : Room k callerA) (hbind : ∀ (s : Shared) (u : Value), BindsTo s fd ⟨[u], []⟩ [(x, u)])
    (F : ∀ base : Heap, K.In base → base.Ns mainGlobals mg → FnOkG P w K mg base CX k fa fd [x] sp) (hCX : ∀ H e s', CX [] H s₁ (fun _ _ _ => False) e s' → False)
    {H : Hp} (hO : Only H) (hsp : sp [.ref a] H (fun v _ => v = .bl true) fun _ _ _ => False) (hok : HOk P w H s₁.heap) (so : Sole K H a) :
    TrueG P w fa a s₁ := by
  unfold TrueG
  have isA : ∀ {b : Addr} {o : Obj} {es : Array DictEntry} {ep : Nat}, s₁.heap.get? b = some o → o.data = .dict es ep → H b = none := by
    intro b o es ep e d
    apply so.none_of
    rintro rfl
    rw [ha] at e
    cases e
    exact Data.noConfusion d
  have keepNs : ∀ {b : Addr} {m : Str → Option Value}, s₁.heap.Ns b m → (hidT s₁.heap H).Ns b m := by
    rintro b m ⟨o, es, ep, e, d, r⟩
    exact ⟨o, es, ep, hidT_get e (isA e d), d, r⟩
  have keepK : K.In (hidT s₁.heap H) := by
    intro b o e
    refine hidT_get (KX b o e) (Classical.byContradiction fun z => ?_)
    have := so.only b z
    subst this
    rw [so.new z] at e
    cases e
  obtain ⟨mc, l1, l2⟩ := hlim
  have E0 : Env0 P w K mg (hidT s₁.heap H) callerA [] s₁ H := by
    refine ⟨rfl, ⟨keepK, keepNs hns, ⟨mb, keepNs hb, hbb⟩, ⟨mc, keepNs l1, l2⟩⟩, fun b o e => of_hidT e, Nat.le_of_eq (hidT_size _ _), trivial, fun b hb => ?_, hok, .of_eq hg⟩
    have hb : b ∈ ([] : List Addr) := hb
    cases hb
  refine codeAny_mono ((F _ keepK (keepNs hns)).run callerA [] s₁ H ⟨[.ref a], []⟩ [.ref a] [.ref a] _ _ rfl hr E0 (hbind s₁ (.ref a)) (.cons rfl .nil) hsp) ?_
  rintro (e | fl) s' hh
  · exact (hCX H e s' hh).elim
  cases fl with
  | next => exact False.elim hh
  | brk => exact False.elim hh
  | cont => exact False.elim hh
  | ret u =>
    obtain ⟨v, H', os, bare, un, hok', rel, q⟩ := hh
    cases (show v = .bl true from q)
    cases (show u = Value.bool true from rel)
    refine ⟨rfl, OldK.of_keep fun b o e => ?_, os, bare⟩
    by_cases hb : H b = none
    · refine un.keep b o e hb (fun z => ?_) (by simp)
      have z : b ∈ ([] : List Addr) := z
      cases z
    · rcases hO b with z | ⟨ob, xs, z⟩
      · exact absurd z hb
      · have t1 := (hok b _ z).1
        have t2 := (hok' b _ (un.frzs b ob _ z)).1
        rw [e] at t1
        cases t1
        exact t2
theorem callG (KX : K.In s₁.heap) (hns : s₁.heap.Ns mainGlobals mg) (hb : s₁.heap.Ns builtinsNs mb) (hbb : ∀ x : Str, x ≠ "__name__" → mb x = bootBuiltins x) (hlim : s₁.heap.NoLimit) (hg : s₁.gens = #[])
    (ha : s₁.heap.get? a = some { cls := .type "list", data := .seq vs.toArray }) (hi : IntsAre vs ns) (hl : ns.length ≤ sizeLine) (hr : Room k callerA) (hbind : ∀ (s : Shared) (u : Value), BindsTo s fd ⟨[u], []⟩ [(x, u)])
    (F : ∀ base : Heap, K.In base → base.Ns mainGlobals mg → FnOkG P w K mg base CX k fa fd [x] sp) (hCX : ∀ H e s', CX [] H s₁ (fun _ _ _ => False) e s' → False)
    (hsp : ∀ H : Hp, Only H → SqL K H a (ns.map V.int) → sp [.ref a] H (fun v _ => v = .bl true) fun _ _ _ => False) :
    TrueG P w fa a s₁ := by
  have rv := vals_ints hi
  have hlen := hi.length
  cases hk : K.lookup a with
  | some o =>
    have e := KX a o hk
    rw [ha] at e
    cases e
    have hO : Only (fun _ => none) := fun _ => .inl rfl
    refine coreG KX hns hb hbb hlim hg ha hr hbind F hCX hO (hsp _ hO (.inr ⟨_, vs.toArray, _, hk, rfl, rfl, rfl, ?_, ?_⟩)) (fun b u z => ?_) ⟨fun b z => absurd rfl z, fun z => absurd rfl z⟩
    · rw [List.size_toArray, hlen]; exact hl
    · simpa using rv
    · cases (show (none : Option HO) = some u from z)
  | none =>
    let HS : Hp := fun b => if b = a then some (.frz { cls := .type "list", data := .seq vs.toArray } (.lst (ns.map V.int))) else none
    have at_ : HS a = some (.frz { cls := .type "list", data := .seq vs.toArray } (.lst (ns.map V.int))) := if_pos rfl
    have off : ∀ b, b ≠ a → HS b = none := fun b hb => if_neg hb
    have hO : Only HS := fun b => by
      by_cases e : b = a
      · subst e; exact .inr ⟨_, _, at_⟩
      · exact .inl (off b e)
    refine coreG KX hns hb hbb hlim hg ha hr hbind F hCX hO (hsp HS hO (.inl (.inr ⟨_, at_⟩))) (fun b u z => ?_) ⟨fun b z => Classical.byContradiction fun e => z (off b e), fun _ => hk⟩
    by_cases e : b = a
    · subst e
      rw [at_] at z
      cases z
      exact ⟨ha, by rw [List.length_map]; exact hl, vs, _, rv, ha⟩
    · rw [off b e] at z; cases z
end
theorem walkG {l : PySem.W.OpenLaw} {n k : Nat} {q : Program} {loose : List Str} {XP : (Str → Option Value) → Heap → Prop} {YP : World → Heap → Prop} {d : DefRec} {CX : CXT} {x : Str}
    (hn : l.most = some n) (hn2 : n ≤ sizeLine) (hdf : d.params.defaults = []) (hr : Room k callerA) (F : ∀ (w : World) (mg : Str → Option Value) (fa : Addr) (h : Heap), YP w h → h.Ns mainGlobals mg → mg d.name = some (.ref fa) → ∃ (K : PySem.W.Frag) (fd : FuncData) (sp : Sp), K.In h ∧ (∀ (s : Shared) (u : Value), BindsTo s fd ⟨[u], []⟩ [(x, u)]) ∧
      (∀ (H : Hp) (a : Addr) (ns : List Int), ns.length ≤ n → Only H → SqL K H a (ns.map V.int) → sp [.ref a] H (fun v _ => v = .bl true) fun _ _ _ => False) ∧ ∀ base : Heap, K.In base → base.Ns mainGlobals mg → FnOkG l.prog w K mg base CX k fa fd [x] sp)
    (hCX : ∀ (H : Hp) (s : Shared) (e : Value) (s' : Shared), CX [] H s (fun _ _ _ => False) e s' → False) : PySem.W.WalkO q loose XP YP l.row.toRowW d [] (fun f vs => PySem.call f vs) := by
  apply Att.attach_call hn hdf
  intro w s₀ s₁ mg mb fa o pm cd doc a vs ns G Y ho hd hcd hmg hobj hints hlen hg
  obtain ⟨K, fd, sp, KX, hbi, hsp, hF⟩ := F w mg fa _ Y G.T.g hmg
  exact callG KX G.T.g G.T.b G.T.builtins G.T.nolimit hg hobj hints (Nat.le_trans hlen hn2) hr hbi hF (fun H e s' => hCX H s₁ e s') fun H hO hS => hsp H a ns hlen hO hS
theorem any_okG {P : Program} {w : World} {K : PySem.W.Frag} {mg : Str → Option Value} {base : Heap} {k : Nat} {f : Addr} {fd : FuncData} {ps : List Str} {sp : Sp} (F : FnOkG P w K mg base (L2N.CX P w) k f fd ps sp) : FnOkG P w K mg base (CXA P) k f fd ps sp :=
  ⟨F.len, fun A outer s H args us vs Q E hg hr he hb hv hs => codeAny_mono (F.run A outer s H args us vs Q E hg hr he hb hv hs) fun r s' x => by
    cases r with
    | ok v => cases v <;> exact x
    | error e => exact ⟨w, x⟩⟩
theorem FnMG.fn {N : Nms} {P : Program} {w : World} {K : PySem.W.Frag} {mg : Str → Option Value} {base : Heap} {CX : CXT} {k : Nat} {x qual : Str} {params : Arguments} {body : List Stmt} {scope : Scope} {dvs : List V} {kws : List (Str × V)} {f : Addr} {fd : FuncData} {ps : List Str} {mf : List Vl → Sto → Out Vl}
    (D : FnMG N P w K mg base CX k f (FunD K x qual params body scope dvs kws f) ps mf) (F : FunD K x qual params body scope dvs kws f fd) : FnOkG P w K mg base CX k f fd ps (spM N K ps.length mf) := by
  obtain ⟨fd', F', _, G⟩ := D.ex
  obtain ⟨oc, od, dV, kV, doc, pm, an, cdv, ct, osl, e1, lk, _⟩ := F.ex
  obtain ⟨oc', od', dV', kV', doc', pm', an', cdv', ct', osl', e1', lk', _⟩ := F'.ex
  rw [lk] at lk'
  injection lk' with lk'
  injection lk' with h1 h2 h3 h4
  injection h3 with h3
  rw [h3]
  exact G
end Nt

namespace Nt
open PySem PySem.Spec PyProof.Rows L2
section
variable {N : Nms} {K : PySem.W.Frag} {x qual : Str} {params : Arguments} {body : List Stmt} {scope : Scope} {dvs : List V} {kws : List (Str × V)} {f : Addr} {ps : List Str}
/-- positional defaults and keyword-only ones -/
theorem bd_kwd (n : Nat) (ks : List Str) (ms : List (Str × V)) (g : {α : Type} → List α → List α → List α → List α → List α) (dsL msL : List Vl) (hd : dvs ≠ []) (hk : kws ≠ []) (hms : ∀ q ∈ ms, q ∈ kws)
    (hrel : ∀ {vs ds mz zs : List V} {us its mv ws : List Value}, Vals vs us → Vals ds its → Vals mz mv → Vals zs ws → Vals (g vs ds mz zs) (g us its mv ws))
    (hL : ∀ (m : List Addr) (H : Hp) (xs zs : List Vl) (us ws : List V), Vrs N K m H xs us → Vrs N K m H zs ws → Vrs N K m H (g xs dsL msL zs) (g us dvs (ms.map (·.2)) ws))
    (h : ∀ (T D : Addr) (doc pm : Value) (an : Option Addr) (cdv ct : Value) (us its mv ws : List Value), us.length = n → its.length = dvs.length → mv.length = ms.length → ws.length = ks.length → ∃ k, bindArgs (PySem.W.fnOf x qual params body scope (.ref T) (.ref D) doc pm an cdv ct) ⟨us, ks.zip ws⟩ = seqItems? (.ref T) >>= k ∧ KwChain D ((ms.map (·.1)).zip mv) (k (some its.toArray)) (ps.zip (g us its mv ws))) :
    Bd N K (FunD K x qual params body scope dvs kws f) ps n ks (fun xs zs => g xs dsL msL zs) := fun fd F => by
  obtain ⟨its, mv, hb⟩ := F.kbinds n ks ms g hd hk hms hrel h
  exact ⟨_, _, hb, fun m H xs us zs ws r1 r2 => hL m H xs zs us ws r1 r2⟩
end
section
variable {N : Nms} {X : Cx}
def vImul (x y : Vl) (S : Sto) : Out Vl := match x, y with
  | .int i, .int j => if (-2 ^ 64 < i ∧ i < 2 ^ 64) ∨ (-2 ^ 64 < j ∧ j < 2 ^ 64) then .ok (.int (i * j)) S else .bad
  | _, _ => .bad
theorem opm_imul : OpM N X (inplaceOp .Mult) vImul := by
  refine ⟨_, (fun pins s σ H x y v u Q I rx ry q => iop_mul pins s σ H x y v u Q I rx ry q), fun m S H x y u w Q E s rx ry h => ?_⟩
  unfold vImul at h
  split at h
  · split at h
    · rename_i hc
      cases rx; cases ry
      exact ⟨_, _, rfl, rfl, hc, h.ok s (.int _)⟩
    · exact h.elim
  · exact h.elim
def mClear (x : Vl) (xs : List Vl) (S : Sto) : Out Vl := match x, xs with
  | .ref i, [] => match S[i]? with
    | some (.lst l) => .ok .non (S.set i (.lst []))
    | _ => .bad
  | _, _ => .bad
theorem mm_clear : MtMM N X "list.clear" mClear := by
  refine ⟨_, mt_clear, fun m S H x xs u us Q E s rx rs h => ?_⟩
  unfold mClear at h
  split at h
  · obtain ⟨a, rfl, hm⟩ := rx.ref'
    cases rs.nil'
    split at h
    · rename_i l hS
      obtain ⟨ys, h1, h2⟩ := s.lst hm hS
      exact ⟨a, ys, rfl, rfl, h1, h.to (Ext.upd h1 trivial) (s.set hm h1 trivial (.lst .nil)) .non⟩
    · exact h.elim
  · exact h.elim
end
end Nt

namespace Nt
open PySem PySem.Spec PyProof.Rows L2 Evl
/-! ### sep.join(list of texts) -/
def toStrs : List Vl → Option (List Str)
  | [] => some []
  | .str z :: xs => (toStrs xs).map (z :: ·)
  | _ => none
theorem toStrs_eq : ∀ {xs : List Vl} {ys : List Str}, toStrs xs = some ys → xs = ys.map .str
  | [], ys, h => by cases h; rfl
  | .str z :: xs, ys, h => by
    unfold toStrs at h
    cases q : toStrs xs with
    | none => rw [q] at h; cases h
    | some zs => rw [q] at h; cases h; rw [toStrs_eq q]; rfl
  | .non :: xs, ys, h => by cases h
  | .bl _ :: xs, ys, h => by cases h
  | .int _ :: xs, ys, h => by cases h
  | .tup _ :: xs, ys, h => by cases h
  | .ktp _ :: xs, ys, h => by cases h
  | .ref _ :: xs, ys, h => by cases h
  | .fn _ :: xs, ys, h => by cases h
  | .ty _ :: xs, ys, h => by cases h
  | .scr _ :: xs, ys, h => by cases h
theorem toStrs_map : ∀ (ys : List Str), toStrs (ys.map Vl.str) = some ys
  | [] => rfl
  | y :: ys => by rw [List.map_cons, toStrs, toStrs_map ys]; rfl
theorem Vrs.strs {N : Nms} {K : PySem.W.Frag} {m : List Addr} {H : Hp} : ∀ {ys : List Str} {us : List V}, Vrs N K m H (ys.map Vl.str) us → us = ys.map V.str
  | [], _, .nil => rfl
  | y :: ys, _, .cons r rs => by cases r; rw [Vrs.strs rs]; rfl
def mJoin (x : Vl) (xs : List Vl) (S : Sto) : Out Vl := match x, xs with
  | .str a, [.ref i] => match S[i]? with
    | some (.lst l) => match toStrs l with
      | some ys => if (ys.map (·.length)).sum + ys.length * a.length ≤ 16777216 then .ok (.str (Txt.join a ys)) S else .bad
      | none => .bad
    | _ => .bad
  | _, _ => .bad
section
variable {N : Nms} {X : Cx} {W : L2.St → XK}
theorem mm_join : MtMM N X "str.join" mJoin := by
  refine ⟨_, mt_join, fun m S H x xs u us Q E s rx rs h => ?_⟩
  unfold mJoin at h
  split at h
  · cases rx
    obtain ⟨w, rfl, rw'⟩ := rs.one
    obtain ⟨a, rfl, hm⟩ := rw'.ref'
    split at h
    · rename_i hS
      split at h
      · rename_i ys hy
        split at h
        · rename_i hz
          obtain ⟨zs, h1, h2⟩ := s.lst hm hS
          rw [toStrs_eq hy] at h2
          rw [h2.strs] at h1
          exact ⟨_, a, ys, rfl, rfl, .inl (sq_of h1), hz, h.ok s (.str _)⟩
        · exact h.elim
      · exact h.elim
    · exact h.elim
  · exact h.elim
/-! ### f-strings -/
def vFmt (x : Vl) (S : Sto) : Out Vl := match x with
  | .str y => if y.length ≤ sizeLine then .ok (.str y) S else .bad
  | .int i => if i.natAbs.log2 < 1920 then .ok (.str (toString i)) S else .bad
  | _ => .bad
theorem se_fmt {e : Expr} {fe : XE'} {pos : Pos} (he : SE N X W e fe) : SE N X W (.FormattedValue e (-1) none pos) (xUn vFmt fe) := by
  obtain ⟨t, p, sm⟩ := he.ex
  refine ⟨_, pe_fmt p, fun m S H env σ Q s er h => sm.step s er h fun x S1 m1 H1 u e1 sr1 r1 er1 h1 => ?_⟩
  unfold vFmt at h1
  split at h1
  · cases r1
    split at h1
    · rename_i hz
      exact .inl ⟨_, rfl, hz, h1.ok sr1 (.str _)⟩
    · exact h1.elim
  · cases r1
    split at h1
    · rename_i hz
      exact .inr ⟨_, rfl, hz, h1.ok sr1 (.str _)⟩
    · exact h1.elim
  · exact h1.elim
def jsZ : List XE' → Str → En → Sto → Out Vl
  | [], acc, _, S => .ok (.str acc) S
  | f :: fs, acc, env, S => (f env S).bind fun v S1 => match v with
    | .str y => if (acc ++ y).length ≤ sizeLine then jsZ fs (acc ++ y) env S1 else .bad
    | _ => .bad
structure SJ (N : Nms) (X : Cx) (W : L2.St → XK) (es : List Expr) (fs : List XE') : Prop where
  ex : ∃ ts, PJ X es ts ∧ ∀ (acc : Str) m S H env σ (Q : V → Hp → Prop), SR N X.K m S H → EnR N X.K m H env σ → Post N X.K (Vr N X.K) m H Q (W σ) (jsZ fs acc env S) → tJs ts acc σ H fun out H1 => Q (.str out) H1
theorem sj_nil : SJ N X W [] [] := ⟨[], .nil, fun acc m S H env σ Q s er h => h m H (.str acc) .refl s (.str acc)⟩
theorem sj_cons {e : Expr} {es : List Expr} {f : XE'} {fs : List XE'} (he : SE N X W e f) (hr : SJ N X W es fs) : SJ N X W (e :: es) (f :: fs) := by
  obtain ⟨t, p, sm⟩ := he.ex
  obtain ⟨ts, ps, sms⟩ := hr.ex
  refine ⟨t :: ts, .cons p ps, fun acc m S H env σ Q s er h => ?_⟩
  unfold jsZ at h
  refine sm.step s er h fun v S1 m1 H1 u e1 sr1 r1 er1 h1 => ?_
  split at h1
  · cases r1
    split at h1
    · rename_i hz
      exact ⟨_, rfl, hz, sms _ m1 S1 H1 env σ Q sr1 er1 h1⟩
    · exact h1.elim
  · exact h1.elim
def xJs (fs : List XE') : XE' := fun env S => jsZ fs Str.empty env S
theorem se_js {v1 v2 : Expr} {rest : List Expr} {fs : List XE'} {pos : Pos} (h : SJ N X W (v1 :: v2 :: rest) fs) : SE N X W (.JoinedStr (v1 :: v2 :: rest) pos) (xJs fs) := by
  obtain ⟨ts, p, sm⟩ := h.ex
  exact ⟨_, pe_joined p, fun m S H env σ Q s er h => sm _ m S H env σ Q s er h⟩
theorem se_js1 {e : Expr} {f : XE'} {pos : Pos} (h : SE N X W e f) : SE N X W (.JoinedStr [e] pos) f := by
  obtain ⟨t, p, sm⟩ := h.ex
  exact ⟨t, pe_joined1 p, sm⟩
end
end Nt

namespace Nt
open PySem PySem.Spec PyProof.Rows L2 Evl
/-! ### comprehensions with two fors -/
def comp2Z (I : Itm) (g : GM) (t : XT) (it1 : En → Sto → Out Itm) (g1 : GM) (t1 : XT) (e : XE') (vs1 : List Nat) (env : En) (D : Nat) : Nat → Nat → Sto → Out Unit
  | n, i, S => match I.nxt i S with
    | .stop => .ok () S
    | .bad => .bad
    | .yld x S1 => match n with
      | 0 => .bad
      | n + 1 => match g x env S1 with
        | .ok e1 S2 => match t e1 S2 with
          | .ok b S3 => if b = true then match it1 e1 S3 with
              | .ok I1 S4 => match compZ I1 g1 t1 e (wipeE e1 vs1) D I1.fuel 0 S4 with
                | .ok _ S5 => comp2Z I g t it1 g1 t1 e vs1 env D n (i + 1) S5
                | _ => .bad
              | _ => .bad
            else comp2Z I g t it1 g1 t1 e vs1 env D n (i + 1) S3
          | _ => .bad
        | _ => .bad
theorem comp2Z_eq {I : Itm} {g : GM} {t : XT} {it1 : En → Sto → Out Itm} {g1 : GM} {t1 : XT} {e : XE'} {vs1 : List Nat} {env : En} {D n i : Nat} {S : Sto} : comp2Z I g t it1 g1 t1 e vs1 env D n i S = match I.nxt i S with
    | .stop => .ok () S
    | .bad => .bad
    | .yld x S1 => match n with
      | 0 => .bad
      | n + 1 => match g x env S1 with
        | .ok e1 S2 => match t e1 S2 with
          | .ok b S3 => if b = true then match it1 e1 S3 with
              | .ok I1 S4 => match compZ I1 g1 t1 e (wipeE e1 vs1) D I1.fuel 0 S4 with
                | .ok _ S5 => comp2Z I g t it1 g1 t1 e vs1 env D n (i + 1) S5
                | _ => .bad
              | _ => .bad
            else comp2Z I g t it1 g1 t1 e vs1 env D n (i + 1) S3
          | _ => .bad
        | _ => .bad := by
  cases n <;> rw [comp2Z]
def xLc2 (it : En → Sto → Out Itm) (g : GM) (t : XT) (it1 : En → Sto → Out Itm) (g1 : GM) (t1 : XT) (e : XE') (vs vs1 : List Nat) : XE' := fun env S => (it env S).bind fun I S1 => (comp2Z I g t it1 g1 t1 e vs1 (wipeE env vs) S1.length I.fuel 0 (S1 ++ [.lst []])).bind fun _ S2 => .ok (.ref S1.length) S2
section
variable {N : Nms} {K : PySem.W.Frag}
/-- the inner turns: from a store in which the list stands at D, to what holds behind them -/
theorem sim_in {R : Hp → Prop} {m : List Addr} {S : Sto} {H : Hp} {J : It} {I : Itm} {gm : GM} {g : TG} {ft : XT} {tt : TT} {fe : XE'} {te : TE} {vs : List Nat} {env : En} {σ : L2.St} {D : Addr} {d : Nat} (s1 : SimGV N K vs g gm) (s2 : Sim N K RvB (fun _ => E0) tt ft) (s3 : Sim N K (Vr N K) (fun _ => E0) te fe) (h0 : N.xh = none)
    (hI : ItR N K m H I J) (sr : SR N K m S H) (er : EnR N K m H env σ) (mD : m[d]? = some D) (hp : Post N K (fun _ _ (_ _ : Unit) => True) m H (fun _ H' => R H') E0 (compZ I gm ft fe (wipeE env vs) d I.fuel 0 S)) :
    ∃ W1 : Nat → Nat → Hp → Prop, (∃ k, W1 0 k H) ∧ ∀ j k H, W1 j k H → (J.stop j H ∧ R H) ∨ (J.go j H ∧ ∃ Nx1 : Hp → Prop, (∀ H', Nx1 H' → ∃ k', k' < k ∧ W1 (j + 1) k' H') ∧ ∀ x H', J.yld j H x H' → g x (L2.wipe σ vs) H' fun σ3 H5 => L2.wipe σ3 vs = L2.wipe σ vs ∧ tt σ3 H5 fun b H6 =>
        if b = true then te σ3 H6 fun y H7 => ∃ acc, H7 D = some (.lst acc) ∧ acc.length < sizeLine ∧ Nx1 (upd H7 D (.lst (acc ++ [y]))) else Nx1 H6) := by
  refine ⟨fun i n H' => ∃ m' S', Ext K m H m' H' ∧ SR N K m' S' H' ∧ Post N K (fun _ _ (_ _ : Unit) => True) m' H' (fun _ H' => R H') E0 (compZ I gm ft fe (wipeE env vs) d n i S'), ⟨I.fuel, m, S, Ext.refl, sr, hp⟩, ?_⟩
  rintro i n H' ⟨m', S', e', s', h'⟩
  rw [compZ_eq] at h'
  have hJ := hI m' S' H' i e' s'
  cases q : I.nxt i S' with
  | stop =>
    rw [q] at h' hJ
    exact .inl ⟨hJ, h' m' H' () Ext.refl s' trivial⟩
  | bad => rw [q] at h'; exact h'.elim
  | yld x S2 =>
    rw [q] at h' hJ
    cases n with
    | zero => exact h'.elim
    | succ n =>
      refine .inr ⟨hJ.1, fun H'' => ∃ m' S', Ext K m H m' H'' ∧ SR N K m' S' H'' ∧ Post N K (fun _ _ (_ _ : Unit) => True) m' H'' (fun _ H' => R H') E0 (compZ I gm ft fe (wipeE env vs) d n (i + 1) S'), fun H'' z => ⟨n, Nat.lt_succ_self n, z⟩, fun u H2 hy => ?_⟩
      obtain ⟨m2, e2, s2', r2⟩ := hJ.2 u H2 hy
      have h2 := Post.mono e2 h'
      have er2 : EnR N K m2 H2 (wipeE env vs) (L2.wipe σ vs) := EnR.wipe h0 ((er.mono e').mono e2) vs
      dsimp only at h2
      cases q3 : gm x (wipeE env vs) S2 with
      | err c' x' S3 => rw [q3] at h2; exact h2.elim
      | bad => rw [q3] at h2; exact h2.elim
      | ok env3 S3 =>
        rw [q3] at h2
        dsimp only at h2
        refine s1 m2 S2 H2 (wipeE env vs) (L2.wipe σ vs) x u _ env3 S3 s2' er2 r2 q3 fun m3 H3 σ3 e3 s3' er3 hw => ⟨hw.trans (wipe_wipe σ vs), ?_⟩
        have h3 := Post.mono e3 h2
        refine s2 m3 S3 H3 env3 σ3 _ s3' er3 ?_
        cases q4 : ft env3 S3 with
        | ok b S4 =>
          rw [q4] at h3
          intro m4 H4 b' e4 s4 rb
          cases rb
          have h4 := Post.mono e4 h3
          dsimp only at h4
          cases b with
          | true =>
            rw [if_pos rfl] at h4 ⊢
            refine s3 m4 S4 H4 env3 σ3 _ s4 (er3.mono e4) ?_
            cases q5 : fe env3 S4 with
            | ok y S5 =>
              rw [q5] at h4
              intro m5 H5 uy e5 s5 ry
              have h5 := Post.mono e5 h4
              dsimp only at h5
              cases q6 : S5[d]? with
              | none => rw [q6] at h5; exact h5.elim
              | some o =>
                cases o with
                | lst acc =>
                  rw [q6] at h5
                  dsimp only at h5
                  have mD5 := (((((e'.trans e2).trans e3).trans e4).trans e5).pre _ _ mD)
                  obtain ⟨ys, k1, k2⟩ := s5.lst mD5 q6
                  split at h5
                  · rename_i hl
                    have ex : Ext K m5 H5 m5 (upd H5 D (.lst (ys ++ [uy]))) := Ext.upd k1 trivial
                    exact ⟨ys, k1, sz_lt (by rw [← k2.len]; exact hl), m5, _, ((((e'.trans e2).trans e3).trans e4).trans e5).trans ex, s5.set mD5 k1 trivial (.lst (k2.append (.cons ry .nil))), Post.mono ex h5⟩
                  · exact h5.elim
                | _ => rw [q6] at h5; exact h5.elim
            | err c' x' S5 => rw [q5] at h4; exact h4.elim
            | bad => rw [q5] at h4; exact h4.elim
          | false =>
            rw [if_neg Bool.false_ne_true] at h4 ⊢
            exact ⟨m4, S4, ((e'.trans e2).trans e3).trans e4, s4, h4⟩
        | err c' x' S4 => rw [q4] at h3; exact h3.elim
        | bad => rw [q4] at h3; exact h3.elim
theorem sim_lc2 {W : L2.St → XK} {fi fi1 : En → Sto → Out Itm} {g g1 : TG} {gm gm1 : GM} {ft ft1 : XT} {fe : XE'} {wi wi1 : TI} {tt tt1 : TT} {te : TE} {vs vs1 : List Nat} (s0 : Sim N K (ItR N K) W wi fi) (s1 : SimGV N K vs g gm) (s2 : Sim N K RvB (fun _ => E0) tt ft)
    (s0' : Sim N K (ItR N K) (fun _ => E0) wi1 fi1) (s1' : SimGV N K vs1 g1 gm1) (s2' : Sim N K RvB (fun _ => E0) tt1 ft1) (s3 : Sim N K (Vr N K) (fun _ => E0) te fe) (h0 : N.xh = none) : Sim N K (Vr N K) W (tLc2 wi g tt wi1 g1 tt1 te vs vs1) (xLc2 fi gm ft fi1 gm1 ft1 fe vs vs1) := fun m S H env σ Q s er h =>
  s0.step s er h fun I S1 m1 H1 J e1 sr1 r1 er1 h1 => fun D hD => by
    have sD := sr1.new (o := .lst []) (Same.new hD) hD upd_same (.lst .nil)
    have eD : Ext K m1 H1 (m1 ++ [D]) (upd H1 D (.lst [])) := Ext.app (Same.new hD)
    have mD : (m1 ++ [D])[S1.length]? = some D := by
      have := sr1.ref_new (p := D) (H' := H1)
      cases this with | ref z => exact z
    refine ⟨fun i n H' => ∃ m' S', Ext K (m1 ++ [D]) (upd H1 D (.lst [])) m' H' ∧ SR N K m' S' H' ∧ Post N K (Vr N K) m' H' Q (W σ) ((comp2Z I gm ft fi1 gm1 ft1 fe vs1 (wipeE env vs) S1.length n i S').bind fun _ S2 => .ok (.ref S1.length) S2), ⟨I.fuel, m1 ++ [D], S1 ++ [.lst []], Ext.refl, sD, Post.mono eD h1⟩, ?_⟩
    rintro i n H' ⟨m', S', e', s', h'⟩
    rw [comp2Z_eq] at h'
    have hJ := r1 m' S' H' i (eD.trans e') s'
    cases q : I.nxt i S' with
    | stop =>
      rw [q] at h' hJ
      exact .inl ⟨hJ, h'.ok s' (.ref (e'.pre _ _ mD))⟩
    | bad => rw [q] at h'; exact h'.elim
    | yld x S2 =>
      rw [q] at h' hJ
      cases n with
      | zero => exact h'.elim
      | succ n =>
        refine .inr ⟨hJ.1, fun H'' => ∃ m' S', Ext K (m1 ++ [D]) (upd H1 D (.lst [])) m' H'' ∧ SR N K m' S' H'' ∧ Post N K (Vr N K) m' H'' Q (W σ) ((comp2Z I gm ft fi1 gm1 ft1 fe vs1 (wipeE env vs) S1.length n (i + 1) S').bind fun _ S2 => .ok (.ref S1.length) S2), fun H'' z => ⟨n, Nat.lt_succ_self n, z⟩, fun u H2 hy => ?_⟩
        obtain ⟨m2, e2, s2x, r2⟩ := hJ.2 u H2 hy
        have h2 := Post.mono e2 h'
        have er2 : EnR N K m2 H2 (wipeE env vs) (L2.wipe σ vs) := EnR.wipe h0 ((er1.mono (eD.trans e')).mono e2) vs
        dsimp only at h2
        cases q3 : gm x (wipeE env vs) S2 with
        | err c' x' S3 => rw [q3] at h2; exact h2.elim
        | bad => rw [q3] at h2; exact h2.elim
        | ok env3 S3 =>
          rw [q3] at h2
          dsimp only at h2
          refine s1 m2 S2 H2 (wipeE env vs) (L2.wipe σ vs) x u _ env3 S3 s2x er2 r2 q3 fun m3 H3 σ3 e3 s3' er3 hw => ⟨hw.trans (wipe_wipe σ vs), ?_⟩
          have h3 := Post.mono e3 h2
          refine s2 m3 S3 H3 env3 σ3 _ s3' er3 ?_
          cases q4 : ft env3 S3 with
          | ok b S4 =>
            rw [q4] at h3
            intro m4 H4 b' e4 s4 rb
            cases rb
            have h4 := Post.mono e4 h3
            dsimp only at h4
            cases b with
            | true =>
              rw [if_pos rfl] at h4 ⊢
              refine s0' m4 S4 H4 env3 σ3 _ s4 (er3.mono e4) ?_
              cases q5 : fi1 env3 S4 with
              | ok I1 S5 =>
                rw [q5] at h4
                intro m5 H5 J1 e5 s5 rJ
                have h5 := Post.mono e5 h4
                dsimp only at h5
                have e05 := (((e'.trans e2).trans e3).trans e4).trans e5
                refine sim_in (R := _) s1' s2' s3 h0 rJ s5 ((er3.mono e4).mono e5) (e05.pre _ _ mD) ?_
                cases q6 : compZ I1 gm1 ft1 fe (wipeE env3 vs1) S1.length I1.fuel 0 S5 with
                | ok v S6 =>
                  rw [q6] at h5
                  intro m6 H6 _ e6 s6 _
                  exact ⟨m6, S6, e05.trans e6, s6, Post.mono e6 h5⟩
                | err c' x' S6 => rw [q6] at h5; exact h5.elim
                | bad => rw [q6] at h5; exact h5.elim
              | err c' x' S5 => rw [q5] at h4; exact h4.elim
              | bad => rw [q5] at h4; exact h4.elim
            | false =>
              rw [if_neg Bool.false_ne_true] at h4 ⊢
              exact ⟨m4, S4, ((e'.trans e2).trans e3).trans e4, s4, h4⟩
          | err c' x' S4 => rw [q4] at h3; exact h3.elim
          | bad => rw [q4] at h3; exact h3.elim
end
section
variable {N : Nms} {X : Cx} {W : L2.St → XK} {elt tg iter tg1 iter1 : Expr} {ifs ifs1 : List Expr} {scope : Scope} {own : List (Str × Nat)} {vs1 : List Nat} {pos : Pos} {fi fi1 : En → Sto → Out Itm} {gm gm1 : GM} {ft ft1 : XT} {fe : XE'} {g g1 : TG}
/-- the tests of a for clause: none, or one -/
inductive STs (N : Nms) (X : Cx) : List Expr → XT → Prop
  | none : STs N X [] yYes
  | one {c : Expr} {ft : XT} (h : ST N X (fun _ => E0) c ft) : STs N X [c] ft
theorem STs.pts (h : STs N X ifs ft) : PTs X ifs (cE N X.K RvB (fun _ => E0) ft) := by
  cases h with
  | none => exact ⟨fun pins s σ H Q I hh => pts_nil.run pins s σ H Q I (by
      obtain ⟨m, S, env, s1, er, hp⟩ := hh
      exact sim_yes (W := fun _ => E0) m S H env σ Q s1 er hp)⟩
  | one h => exact pts_one h.pt
theorem se_lc2 (hc : X.calm = true) (hN : X.N.Nodup) (hi : SI N X W tg iter fi) (ok : BlkOk X.N X.env.scope scope own) (hv : ∀ i ∈ vs1, i ∈ own.map (·.2)) (hgv : SimGV N X.K (own.map (·.2)) g gm) (hgv1 : SimGV N X.K vs1 g1 gm1)
    (hg : ∀ (s : Shared) (H : Hp) (C : Addr) (cl : List (Str × Addr)) (fp : List Addr), PG (X.blk s H scope (compEnvC scope cl C X.env) fp) tg g) (ht : ∀ (s : Shared) (H : Hp) (C : Addr) (cl : List (Str × Addr)) (fp : List Addr), STs N (X.blk s H scope (compEnvC scope cl C X.env) fp) ifs ft)
    (hi1 : ∀ (s : Shared) (H : Hp) (C : Addr) (cl : List (Str × Addr)) (fp : List Addr), SI N (X.blk s H scope (compEnvC scope cl C X.env) fp) (fun _ => E0) tg1 iter1 fi1) (hg1 : ∀ (s : Shared) (H : Hp) (C : Addr) (cl : List (Str × Addr)) (fp : List Addr), PG (X.blk s H scope (compEnvC scope cl C X.env) fp) tg1 g1)
    (ht1 : ∀ (s : Shared) (H : Hp) (C : Addr) (cl : List (Str × Addr)) (fp : List Addr), STs N (X.blk s H scope (compEnvC scope cl C X.env) fp) ifs1 ft1) (he : ∀ (s : Shared) (H : Hp) (C : Addr) (cl : List (Str × Addr)) (fp : List Addr), SE N (X.blk s H scope (compEnvC scope cl C X.env) fp) (fun _ => E0) elt fe)
    (hs : ∀ x, foldedSetIterable iter X.env x = pure x := by intro _; rfl) (hs1 : ∀ env x, foldedSetIterable iter1 env x = pure x := by intro _ _; rfl) (h0 : N.xh = none := by rfl) : SE N X W (.ListComp elt [⟨tg, iter, ifs, 0⟩, ⟨tg1, iter1, ifs1, 0⟩] scope pos) (xLc2 fi gm ft fi1 gm1 ft1 fe (own.map (·.2)) vs1) := by
  obtain ⟨wi, p0, s0⟩ := hi.ex
  refine ⟨_, pe_lc2 hc hN p0 ok hv hg (fun s H C cl fp => (ht s H C cl fp).pts) (fun s H C cl fp => (hi1 s H C cl fp).pi) hg1 (fun s H C cl fp => (ht1 s H C cl fp).pts) (fun s H C cl fp => (he s H C cl fp).pe) hs hs1, sim_lc2 s0 hgv cE_sim cE_sim hgv1 cE_sim cE_sim h0⟩
end
end Nt

namespace Nt
open PySem PySem.Spec PyProof.Rows L2 Evl
/-! ### comprehensions with two fors, over the store -/
theorem comp2_inv {I : Itm} {g : GM} {t : XT} {it1 : En → Sto → Out Itm} {g1 : GM} {t1 : XT} {e : XE'} {vs1 : List Nat} {env : En} {D : Nat} (xs : List Vl) (P : Nat → Sto → Prop)
    (hI : ∀ i S, P i S → I.nxt i S = (match xs[i]? with | some x => .yld x S | none => .stop))
    (hs : ∀ i x S, xs[i]? = some x → P i S → ∃ e1 S1 b S2, g x env S = .ok e1 S1 ∧ t e1 S1 = .ok b S2 ∧ ((b = false ∧ P (i + 1) S2) ∨ (b = true ∧ ∃ I1 S3 S4, it1 e1 S2 = .ok I1 S3 ∧ compZ I1 g1 t1 e (wipeE e1 vs1) D I1.fuel 0 S3 = .ok () S4 ∧ P (i + 1) S4))) :
    ∀ (n i : Nat) (S : Sto), xs.length ≤ n + i → i ≤ xs.length → P i S → ∃ S', comp2Z I g t it1 g1 t1 e vs1 env D n i S = .ok () S' ∧ P xs.length S'
  | n, i, S, hn, hi, hP => by
    rw [comp2Z_eq, hI i S hP]
    cases hx : xs[i]? with
    | none =>
      have : xs.length ≤ i := by
        rcases Nat.lt_or_ge i xs.length with h | h
        · rw [List.getElem?_eq_getElem h] at hx; cases hx
        · exact h
      have e : i = xs.length := by omega
      subst e
      exact ⟨S, rfl, hP⟩
    | some x =>
      have hlt : i < xs.length := (List.getElem?_eq_some_iff.mp hx).1
      cases n with
      | zero => omega
      | succ n =>
        obtain ⟨e1, S1, b, S2, h1, h2, h3⟩ := hs i x S hx hP
        dsimp only
        rw [h1]
        dsimp only
        rw [h2]
        dsimp only
        rcases h3 with ⟨rfl, h3⟩ | ⟨rfl, I1, S3, S4, h3, h4, h5⟩
        · rw [if_neg Bool.false_ne_true]
          exact comp2_inv xs P hI hs n (i + 1) S2 (by omega) hlt h3
        · rw [if_pos rfl, h3]
          dsimp only
          rw [h4]
          dsimp only
          exact comp2_inv xs P hI hs n (i + 1) S4 (by omega) hlt h5
theorem lc2_inv {I : Itm} {it : En → Sto → Out Itm} {g : GM} {t : XT} {it1 : En → Sto → Out Itm} {g1 : GM} {t1 : XT} {e : XE'} {vs vs1 : List Nat} {env env' : En} {S S1 : Sto} (xs : List Vl) (P : Nat → Sto → Prop) (hit : it env S = .ok I S1) (hw : wipeE env vs = env') (hf : I.fuel = xs.length)
    (hI : ∀ i S, P i S → I.nxt i S = (match xs[i]? with | some x => .yld x S | none => .stop))
    (hs : ∀ i x S, xs[i]? = some x → P i S → ∃ e1 T1 b T2, g x env' S = .ok e1 T1 ∧ t e1 T1 = .ok b T2 ∧ ((b = false ∧ P (i + 1) T2) ∨ (b = true ∧ ∃ I1 T3 T4, it1 e1 T2 = .ok I1 T3 ∧ compZ I1 g1 t1 e (wipeE e1 vs1) S1.length I1.fuel 0 T3 = .ok () T4 ∧ P (i + 1) T4)))
    (h0 : P 0 (S1 ++ [.lst []])) : ∃ S', xLc2 it g t it1 g1 t1 e vs vs1 env S = .ok (.ref S1.length) S' ∧ P xs.length S' := by
  obtain ⟨S', h1, h2⟩ := comp2_inv (I := I) (g := g) (t := t) (it1 := it1) (g1 := g1) (t1 := t1) (e := e) (vs1 := vs1) (env := env') (D := S1.length) xs P hI hs xs.length 0 _ (by omega) (by omega) h0
  refine ⟨S', ?_, h2⟩
  unfold xLc2
  rw [hit, Out.bind_ok, hw, hf, h1]; rfl
/-- the inner turns over a list, by a test and an element that change nothing -/
theorem comp_at {α : Type} {j D : Nat} {g : GM} {t : XT} {e : XE'} {env : En} {xs : List α} {f : α → Vl} (p : α → Bool) (h : α → Vl) (hne : D ≠ j) {acc0 : List Vl} (hl : acc0.length + xs.length < 90000)
    (hs : ∀ S x, x ∈ xs → ∃ e1, g (f x) env S = .ok e1 S ∧ t e1 S = .ok (p x) S ∧ e e1 S = .ok (h x) S) : ∀ (n i : Nat) (S : Sto), S[D]? = some (.lst (acc0 ++ ((xs.take i).filter p).map h)) → S[j]? = some (.lst (xs.map f)) → xs.length ≤ n + i → i ≤ xs.length →
      compZ (itL j (xs.map f).length) g t e env D n i S = .ok () (S.set D (.lst (acc0 ++ (xs.filter p).map h)))
  | n, i, S, hD, hj, hn, hi => by
    rw [compZ_eq, nxt_L hj, List.getElem?_map]
    cases hx : xs[i]? with
    | none =>
      have : xs.length ≤ i := by
        rcases Nat.lt_or_ge i xs.length with z | z
        · rw [List.getElem?_eq_getElem z] at hx; cases hx
        · exact z
      rw [List.take_of_length_le this] at hD
      show Out.ok () S = _
      rw [set_same hD]
    | some x =>
      have hlt : i < xs.length := (List.getElem?_eq_some_iff.mp hx).1
      have htk : xs.take (i + 1) = xs.take i ++ [x] := by rw [List.take_add_one, hx]; rfl
      cases n with
      | zero => omega
      | succ n =>
        obtain ⟨e1, h1, h2, h3⟩ := hs S x (List.mem_of_getElem? hx)
        show (match g (f x) env S with | .ok e1 S2 => _ | _ => _) = _
        rw [h1]
        dsimp only
        rw [h2]
        dsimp only
        cases hp : p x with
        | false =>
          rw [if_neg Bool.false_ne_true]
          refine comp_at p h hne hl hs n (i + 1) S ?_ hj (by omega) hlt
          rw [htk, List.filter_append, List.filter_cons, if_neg (by rw [hp]; exact Bool.false_ne_true), List.filter_nil, List.append_nil]
          exact hD
        | true =>
          rw [if_pos rfl, h3]
          dsimp only
          rw [hD]
          dsimp only
          have hll : (acc0 ++ ((xs.take i).filter p).map h).length < 100000 := by
            rw [List.length_append, List.length_map]
            have a1 := List.length_filter_le p (xs.take i)
            have a2 := List.length_take_le' i xs
            omega
          rw [if_pos hll]
          have := comp_at p h hne hl hs n (i + 1) (S.set D (.lst (acc0 ++ ((xs.take i).filter p).map h ++ [h x]))) (by
            rw [get_set hD, htk, List.filter_append, List.filter_cons, if_pos hp, List.filter_nil, List.map_append, List.append_assoc]; rfl) (by rw [get_set_ne hne]; exact hj) (by omega) hlt
          rw [this, List.set_set]
end Nt

namespace Nt
open PySem PySem.Spec PyProof.Rows L2 Evl
/-! ### zip(.., .., strict=True) of lists and tuples -/
section
variable {prog : Program} {w : World} {A : Around} {E : Value → Shared → Prop} {s : Shared} {t : Bool} {h h' : Heap} {it l c : Addr} {k : Nat} {xs : Array Value} {x : Value}
def ItI (t : Bool) (h : Heap) (it l : Addr) (k : Nat) : Prop := if t = true then h.IsTupleIter it l k else h.IsListIter it l k
def SqI (t : Bool) (h : Heap) (l : Addr) (xs : Array Value) : Prop := if t = true then h.IsTuple l xs else h.IsList l xs
theorem ItI.ext (i : ItI t h it l k) (e : Heap.ExtBut c h h') (n : it ≠ c) : ItI t h' it l k := by
  cases t
  · exact Heap.IsListIter.extBut (h := h) i e n
  · exact Heap.IsTupleIter.extBut (h := h) i e n
theorem SqI.ext (i : SqI t h l xs) (e : Heap.ExtBut c h h') (n : l ≠ c) : SqI t h' l xs := by
  cases t
  · exact Heap.IsList.extBut (h := h) i e n
  · exact Heap.IsTuple.extBut (h := h) i e n
theorem ItI.at_ (i : ItI t h it l k) (f : ∀ o, h.get? it = some o → h'.get? it = some o) : ItI t h' it l k := by
  cases t
  · exact Heap.IsListIter.at (h := h) i f
  · exact Heap.IsTupleIter.at (h := h) i f
theorem ItI.lt (i : ItI t h it l k) : it < h.objs.size := by
  cases t
  · obtain ⟨_, e, _⟩ := (show h.IsListIter it l k from i); exact Heap.lt_size e
  · obtain ⟨_, e, _⟩ := (show h.IsTupleIter it l k from i); exact Heap.lt_size e
theorem draw_item {Q : Option Value → Shared → Prop} (i : ItI t s.heap it l k) (hl : SqI t s.heap l xs) (hx : xs[k]? = some x) (hQ : ∀ h', ItI t h' it l (k + 1) → Heap.SameBut it s.heap h' → Q (some x) { s with heap := h' }) :
    wpAny (model prog w) A (Builtin.SmallTypes.nextOrEnd (.ref it)) Q E s := by
  unfold Builtin.SmallTypes.nextOrEnd
  refine wpAny_bind (wpAny_attempt ?_)
  cases t
  · exact wpAny_nextOf_list_item (show s.heap.IsListIter it l k from i) (show s.heap.IsList l xs from hl) hx fun h' a b => wpAny_pure (hQ h' a b)
  · exact RZ.nextOf_tuple_item (show s.heap.IsTupleIter it l k from i) (show s.heap.IsTuple l xs from hl) hx fun h' a b => wpAny_pure (hQ h' a b)
theorem draw_end {Q : Option Value → Shared → Prop} (hh : A.handled = none) (i : ItI t s.heap it l k) (hl : SqI t s.heap l xs) (hx : xs[k]? = none) (hQ : ∀ h', Heap.ExtBut it s.heap h' → Q none { s with heap := h' }) :
    wpAny (model prog w) A (Builtin.SmallTypes.nextOrEnd (.ref it)) Q E s := by
  unfold Builtin.SmallTypes.nextOrEnd
  refine wpAny_bind (wpAny_attempt ?_)
  have fin : ∀ h' e, Heap.ExtBut it s.heap h' → (∃ o, h'.get? e = some o ∧ o.cls = .type "StopIteration") → wpAny (model prog w) A (do if ← isInstance (.ref e) (.type "StopIteration") then pure none else throw (.ref e)) Q E { s with heap := h' } := fun h' e hk ⟨o, ho, hc⟩ =>
    wpAny_bind (wpAny_isInstance (T := "StopIteration") (b := true) ⟨o, ho, hc⟩ isSubtype_stop (wpAny_pure (hQ _ hk)))
  cases t
  · exact wpAny_nextOf_list_end hh (show s.heap.IsListIter it l k from i) (show s.heap.IsList l xs from hl) hx fin
  · exact RZ.nextOf_tuple_end hh (show s.heap.IsTupleIter it l k from i) (show s.heap.IsTuple l xs from hl) hx fin
end
abbrev IsZipS (h : Heap) (z TI TO : Addr) (f0 : Value) : Prop :=
  h.get? z = some { cls := .type "zip", dict := none, data := .fields #[f0, .bool false, .bool true, .ref TI, .ref TO], slots := #[] }
section
variable {prog : Program} {w : World} {A : Around} {E : Value → Shared → Prop} {s : Shared} {t1 t2 : Bool} {z TI TO i1 i2 l1 l2 : Addr} {k1 k2 : Nat} {xs ys : Array Value} {x y a b : Value}
theorem zipS_item {Q : Value → Shared → Prop} (D : ZipApart z TI TO i1 i2 l1 l2) (hz : IsZipS s.heap z TI TO .none) (hTI : IsPair s.heap TI (.ref i1) (.ref i2)) (hTO : IsPair s.heap TO a b)
    (h1 : ItI t1 s.heap i1 l1 k1) (h2 : ItI t2 s.heap i2 l2 k2) (hl1 : SqI t1 s.heap l1 xs) (hl2 : SqI t2 s.heap l2 ys) (hx : xs[k1]? = some x) (hy : ys[k2]? = some y)
    (hQ : ∀ h', IsZipS h' z TI TO (rawInt s.heap.objs.size) → IsPair h' TO x y → ItI t1 h' i1 l1 (k1 + 1) → ItI t2 h' i2 l2 (k2 + 1) → IsPair h' s.heap.objs.size x y → h'.objs.size = s.heap.objs.size + 1 →
      (∀ c o, c ≠ z → c ≠ TO → c ≠ i1 → c ≠ i2 → s.heap.get? c = some o → h'.get? c = some o) → Q (.ref s.heap.objs.size) { s with heap := h' }) :
    wpAny (model prog w) A (Builtin.«zip.__next__» ⟨[.ref z], []⟩) (fun fin s' => ∃ v, fin = .done (.ret v) ∧ Q v s') E s := by
  show wpAny _ _ (field (.ref z) 2 >>= _) _ _ _
  refine wpAny_bind (wpAny_field hz rfl (x := .bool true) rfl ?_)
  show wpAny _ _ (field (.ref z) 3 >>= _) _ _ _
  refine wpAny_bind (wpAny_field hz rfl (x := .ref TI) rfl ?_)
  refine wpAny_bind (wpAny_seqItems hTI rfl ?_)
  show wpAny _ _ (Builtin.SmallTypes.ownedTupleIsFree (.ref z) >>= _) _ _ _
  refine wpAny_bind ?_; unfold Builtin.SmallTypes.ownedTupleIsFree
  refine wpAny_bind (wpAny_field hz rfl (x := .none) rfl (wpAny_pure ?_)); simp only [if_true]
  refine wpAny_bind (wpAny_rule (wpAny_bind (wpAny_field hz rfl (x := .ref TO) rfl (wpAny_bind (wpAny_setField_rec hz (by simp) fun g1 z1 s1 => ?_)))))
  replace z1 : IsZipS g1 z TI TO .ellipsis := z1
  refine wpAny_bind ?_; simp only [List.zipIdx_cons, List.zipIdx_nil, List.forIn_cons, List.forIn_nil]
  refine wpAny_bind (wpAny_bind (wpAny_onRaise (draw_item (h1.ext s1.extBut D.i1z) (hl1.ext s1.extBut D.l1z) hx fun g2 p2 s2 => ?_)))
  have o2 : IsPair g2 TO a b := s2.extBut _ _ D.TOi1 (s1.extBut _ _ D.TOz hTO)
  refine wpAny_bind (wpAny_seqItems o2 rfl (wpAny_bind (wpAny_updateSeq_pair o2 fun g3 o3 s3 => ?_)))
  replace o3 : IsPair g3 TO x b := o3
  refine wpAny_bind (wpAny_letGo (wpAny_pure ?_))
  refine wpAny_bind (wpAny_bind (wpAny_onRaise (draw_item (((h2.ext s1.extBut D.i2z).ext s2.extBut D.i12.symm).ext s3.extBut D.TOi2.symm) (((hl2.ext s1.extBut D.l2z).ext s2.extBut D.l2i1).ext s3.extBut D.l2TO) hy fun g4 p4 s4 => ?_)))
  have o4 : IsPair g4 TO x b := s4.extBut _ _ D.TOi2 o3
  refine wpAny_bind (wpAny_seqItems o4 rfl (wpAny_bind (wpAny_updateSeq_pair o4 fun g5 o5 s5 => ?_)))
  replace o5 : IsPair g5 TO x y := o5
  refine wpAny_bind (wpAny_letGo (wpAny_pure (wpAny_pure ?_)))
  refine wpAny_bind (wpAny_seqItems o5 rfl (wpAny_bind (wpAny_newTuple ?_)))
  have sz : g5.objs.size = s.heap.objs.size := by rw [s5.1, s4.1, s3.1, s2.1, s1.1]
  have z5 : IsZipS g5 z TI TO .ellipsis := s5.extBut _ _ D.TOz.symm (s4.extBut _ _ D.i2z.symm (s3.extBut _ _ D.TOz.symm (s2.extBut _ _ D.i1z.symm z1)))
  have kp : ∀ c o, c ≠ z → c ≠ TO → c ≠ i1 → c ≠ i2 → s.heap.get? c = some o → g5.get? c = some o := fun c o n1 n2 n3 n4 e => s5.extBut _ _ n2 (s4.extBut _ _ n4 (s3.extBut _ _ n2 (s2.extBut _ _ n3 (s1.extBut _ _ n1 e))))
  have q1 : ItI t1 g5 i1 l1 (k1 + 1) := ((p2.ext s3.extBut D.TOi1.symm).ext s4.extBut D.i12).ext s5.extBut D.TOi1.symm
  have q2 : ItI t2 g5 i2 l2 (k2 + 1) := p4.ext s5.extBut D.TOi2.symm
  have zl : z < g5.objs.size := Heap.lt_size z5
  show wpAny _ _ (Builtin.SmallTypes.ownedTupleHandOut (.ref z) (.ref g5.objs.size) >>= _) _ _ _
  refine wpAny_bind ?_; unfold Builtin.SmallTypes.ownedTupleHandOut
  have z6 : IsZipS (g5.push { cls := .type "tuple", data := .seq #[x, y] }) z TI TO .ellipsis := Heap.get?_push_of_some _ z5
  refine wpAny_bind (wpAny_setField_rec z6 (by simp) fun g7 z7 s7 => ?_)
  replace z7 : IsZipS g7 z TI TO (rawInt g5.objs.size) := z7
  refine wpAny_setField_rec z7 (by simp) fun g8 z8 s8 => ?_
  replace z8 : IsZipS g8 z TI TO (rawInt g5.objs.size) := z8
  have up : ∀ c o, c ≠ z → g5.get? c = some o → g8.get? c = some o := fun c o n e => s8.extBut _ _ n (s7.extBut _ _ n (Heap.get?_push_of_some _ e))
  have T8 : IsPair g8 g5.objs.size x y := s8.extBut _ _ (Nat.ne_of_gt zl) (s7.extBut _ _ (Nat.ne_of_gt zl) (Heap.get?_push_size _ rfl))
  have n8 : g8.objs.size = g5.objs.size + 1 := by rw [s8.1, s7.1, Heap.size_push]
  rw [sz] at z8 T8 n8
  refine wpAny_pure ⟨_, rfl, ?_⟩
  show Q (.ref g5.objs.size) _
  rw [sz]
  exact hQ g8 z8 (up _ _ D.TOz o5) (q1.at_ fun o e => up _ o D.i1z e) (q2.at_ fun o e => up _ o D.i2z e) T8 n8 fun c o n1 n2 n3 n4 e => up c o n1 (kp c o n1 n2 n3 n4 e)
theorem zipS_end {Q : Fin → Shared → Prop} (hh : A.handled = none) (D : ZipApart z TI TO i1 i2 l1 l2) (hz : IsZipS s.heap z TI TO .none) (hTI : IsPair s.heap TI (.ref i1) (.ref i2))
    (h1 : ItI t1 s.heap i1 l1 k1) (h2 : ItI t2 s.heap i2 l2 k2) (hl1 : SqI t1 s.heap l1 xs) (hl2 : SqI t2 s.heap l2 ys) (hx : xs[k1]? = none) (hy : ys[k2]? = none)
    (hE : ∀ h' e, (∀ c o, c ≠ z → c ≠ TO → c ≠ i1 → c ≠ i2 → s.heap.get? c = some o → h'.get? c = some o) → (∃ o, h'.get? e = some o ∧ o.cls = .type "StopIteration") → E (.ref e) { s with heap := h' }) :
    wpAny (model prog w) A (Builtin.«zip.__next__» ⟨[.ref z], []⟩) Q E s := by
  show wpAny _ _ (field (.ref z) 2 >>= _) _ _ _
  refine wpAny_bind (wpAny_field hz rfl (x := .bool true) rfl ?_)
  show wpAny _ _ (field (.ref z) 3 >>= _) _ _ _
  refine wpAny_bind (wpAny_field hz rfl (x := .ref TI) rfl ?_)
  refine wpAny_bind (wpAny_seqItems hTI rfl ?_)
  show wpAny _ _ (Builtin.SmallTypes.ownedTupleIsFree (.ref z) >>= _) _ _ _
  refine wpAny_bind ?_; unfold Builtin.SmallTypes.ownedTupleIsFree
  refine wpAny_bind (wpAny_field hz rfl (x := .none) rfl (wpAny_pure ?_)); simp only [if_true]
  refine wpAny_bind (wpAny_rule (wpAny_bind (wpAny_field hz rfl (x := .ref TO) rfl (wpAny_bind (wpAny_setField_rec hz (by simp) fun g1 z1 s1 => ?_)))))
  replace z1 : IsZipS g1 z TI TO .ellipsis := z1
  refine wpAny_bind ?_; simp only [List.zipIdx_cons, List.zipIdx_nil, List.forIn_cons, List.forIn_nil]
  refine wpAny_bind (wpAny_bind (wpAny_onRaise (draw_end hh (h1.ext s1.extBut D.i1z) (hl1.ext s1.extBut D.l1z) hx fun g2 s2 => ?_)))
  have z2 : IsZipS g2 z TI TO .ellipsis := s2 _ _ D.i1z.symm z1
  refine wpAny_bind (wpAny_setField_rec z2 (by simp) fun g3 z3 s3 => ?_)
  refine wpAny_bind (wpAny_bind ?_)
  show wpAny _ _ (forIn ((List.drop 1 [Value.ref i1, Value.ref i2]).zipIdx 1) PUnit.unit _) _ _ _
  simp only [List.drop_succ_cons, List.drop_zero, List.zipIdx_cons, List.zipIdx_nil, List.forIn_cons, List.forIn_nil]
  have i2' : ItI t2 g3 i2 l2 k2 := ((h2.ext s1.extBut D.i2z).ext s2 D.i12.symm).ext s3.extBut D.i2z
  have l2' : SqI t2 g3 l2 ys := ((hl2.ext s1.extBut D.l2z).ext s2 D.l2i1).ext s3.extBut D.l2z
  refine wpAny_bind (wpAny_bind (draw_end (t := t2) (l := l2) (k := k2) (xs := ys) hh i2' l2' hy fun g4 s4 => ?_))
  simp only [Option.isSome_none, Bool.false_eq_true, if_false]
  refine wpAny_pure (wpAny_pure (wpAny_bind (wpAny_rule ?_)))
  unfold Builtin.SmallTypes.stopIteration
  refine wpAny_bind ?_
  simp only [newExc, newTuple]
  refine wpAny_bind (wpAny_newObj_type ?_ (by size_fits))
  refine wpAny_bind (m := firstArgMember _ _) (wpAny_of_eq (a := Value.none) (by first | rfl | (simp only [firstArgMember]; rfl)) ?_)
  refine wpAny_newObj_type ?_ (by size_fits)
  simp only [raiseNew]
  refine wpAny_bind (wpAny_handled ?_); first | rw [show A.in1.handled = none from hh] | rw [hh]
  refine wpAny_bind (wpAny_pure (wpAny_throw (hE _ _ (fun c o n1 _ n3 n4 e => ?_) ⟨_, Heap.get?_push_size _ rfl, rfl⟩)))
  exact Heap.get?_push_of_some _ (Heap.get?_push_of_some _ (s4 _ _ n4 (s3.extBut _ _ n1 (s2 _ _ n3 (s1.extBut _ _ n1 e)))))
end
section
variable {prog : Program} {w : World} {A : Around} {E : Value → Shared → Prop} {s : Shared}
/-- a built-in class called with keywords -/
theorem callTyK {T newId : String} {Bn : Builtin} {args : List Value} {kw : List (Str × Value)} {S : PySem.Spec} {Q : Value → Shared → Prop} (ft : TypeCalled T newId "object.__init__") (hne : (some newId != some "object.__new__") = true)
    (hct : checkTypeCall T ⟨args, kw⟩ = pure ()) (hcn : checkBuiltinCall newId ⟨.type T :: args, kw⟩ = pure ()) (hok : ∀ obj, argsOk "object.__init__" ⟨obj :: args, kw⟩) (entryN : entryFor table newId = some Bn) (g : Meets (Bn ⟨.type T :: args, kw⟩) S)
    (hi : ∀ self, Meets (Builtin.«object.__init__» ⟨self :: args, kw⟩) (fun _ R s => s.TypeIs self T ∧ R (.ok (.ret .none)) s))
    (h : S A.in1 (wants (fun obj s₁ => s₁.TypeIs obj T ∧ Q obj s₁) E) s) : wpAny (model prog w) A (call (.type T) args kw) Q E s := by
  obtain ⟨c, tl, hmro⟩ := ft.mro; have hmade := ft.made; have hsub := ft.sub
  refine wpAny_call (codeAny_of_tree ?_)
  show wpAny _ _ (callAny (.type T) _) _ _ _
  refine wpAny_pure ⟨Code.quiet_builtin _ (by decide +kernel), codeAny_builtin F.entry_type_call ?_⟩
  rw [Around.under_plain (weight_type_call_type T args kw) (units_type_call_type T args kw)]
  have h1 := ft.notType; have h2 := ft.canCreate
  repeat (any_goals (first | assumption | wp_step))
  refine codeAny_mono (codeAny_call_builtin ft.plain entryN (wpAny_of_eq hcn (g prog w A.in1 _ s h))) fun r s1 hr => ?_
  cases r with
  | error e => exact hr
  | ok fl => cases fl with
  | next => exact hr.elim
  | brk => exact hr.elim
  | cont => exact hr.elim
  | ret obj =>
  obtain ⟨hT, hq⟩ := hr
  have hli := ft.init.lookup; have hbi := ft.init.bind obj
  repeat (any_goals (first | assumption | wp_step))
  refine codeAny_mono (codeAny_call_builtin ft.init.plain F.entry_object_init (ft.init.check _ _ _ _ _ _ _ _ hT (hok obj) (hi obj prog w A.in1 (wants (fun r s2 => r = .none ∧ Q obj s2) E) s1 ⟨hT, rfl, hq⟩))) fun r2 s2 hr2 => ?_
  cases r2 with
  | error e => exact hr2
  | ok fl => cases fl with
  | next => exact hr2.elim
  | brk => exact hr2.elim
  | cont => exact hr2.elim
  | ret r =>
  obtain ⟨rfl, hq⟩ := hr2
  repeat (any_goals (first | assumption | wp_step))
abbrev sKw : List (Str × Value) := [(("strict" : Str), .bool true)]
theorem zs_ct (a b : Value) : checkTypeCall "zip" ⟨[a, b], sKw⟩ = pure () := by kernel_rfl
theorem zs_cn (a b : Value) : checkBuiltinCall "zip.__new__" ⟨[.type "zip", a, b], sKw⟩ = pure () := by kernel_rfl
theorem zs_ok (obj a b : Value) : argsOk "object.__init__" ⟨[obj, a, b], sKw⟩ := by
  unfold argsOk; rw [signature?_of (id := "object.__init__") (n := ['_', '_', 't', 'i', 'n', 'i', '_', '_']) (o := ['t', 'c', 'e', 'j', 'b', 'o']) (by kernel_rfl) F.owner_object]; kernel_rfl
theorem zs_init (self a b : Value) : Meets (Builtin.«object.__init__» ⟨self :: [a, b], sKw⟩) (fun _ R s => s.TypeIs self "zip" ∧ R (.ok (.ret .none)) s) := by
  refine Meets.of_wp fun prog w A R s hs => ?_
  obtain ⟨hT, hq⟩ := hs
  have hl := F.called_zip.init.lookup; have hm := F.called_zip.made
  show wpAny _ _ (typeOf self >>= _) _ _ _
  refine wpAny_bind (wpAny_typeOf hT ?_)
  refine wpAny_bind (wpAny_of_eq hl ?_)
  refine wpAny_bind (wpAny_of_eq hm ?_)
  exact wpAny_pure ⟨_, rfl, hq⟩
def itO (t : Bool) (l : Addr) : Obj := if t = true then { cls := .type "tuple_iterator", data := .fields #[.ref l, .int 0 0] } else { cls := .type "list_iterator", data := .fields #[.ref l, .int 0 0] }
abbrev zsH1 (h : Heap) (t1 : Bool) (l1 : Addr) : Heap := h.push (itO t1 l1)
abbrev zsH2 (h : Heap) (t1 t2 : Bool) (l1 l2 : Addr) : Heap := (zsH1 h t1 l1).push (itO t2 l2)
abbrev zsH3 (h : Heap) (t1 t2 : Bool) (l1 l2 : Addr) : Heap := (zsH2 h t1 t2 l1 l2).push { cls := .type "tuple", data := .seq #[.ref h.objs.size, .ref (zsH1 h t1 l1).objs.size] }
abbrev zsH4 (h : Heap) (t1 t2 : Bool) (l1 l2 : Addr) : Heap := (zsH3 h t1 t2 l1 l2).push { cls := .type "tuple", data := .seq #[.none, .none] }
abbrev zsH5 (h : Heap) (t1 t2 : Bool) (l1 l2 : Addr) : Heap := (zsH4 h t1 t2 l1 l2).push { cls := .type "zip", data := .fields #[.none, .bool false, .bool true, .ref (zsH2 h t1 t2 l1 l2).objs.size, .ref (zsH3 h t1 t2 l1 l2).objs.size] }
theorem SqI.push {t : Bool} {h : Heap} {l : Addr} {xs : Array Value} (i : SqI t h l xs) (o : Obj) : SqI t (h.push o) l xs := by
  cases t
  · exact Heap.IsList.push (show h.IsList l xs from i) o
  · obtain ⟨o', h1, h2⟩ := (show h.IsTuple l xs from i)
    exact ⟨o', Heap.get?_push_of_some _ h1, h2⟩
theorem zs_new (t2 : Bool) (l1 l2 : Addr) (xs ys : Array Value) : Meets (Builtin.«zip.__new__» ⟨[.type "zip", .ref l1, .ref l2], sKw⟩) (fun _ R s => SqI false s.heap l1 xs ∧ SqI t2 s.heap l2 ys ∧
      R (.ok (.ret (.ref (zsH4 s.heap false t2 l1 l2).objs.size))) { s with heap := zsH5 s.heap false t2 l1 l2 }) :=
  .of_wp fun prog w A R s h => by
    obtain ⟨hp, g, d, tk, os⟩ := s; obtain ⟨a1, a2, hq⟩ := h
    have hsub := sub_zip
    cases t2
    · have L1 : Heap.IsList (Shared.heap ⟨hp, g, d, tk, os⟩) l1 xs := a1
      have L2 : Heap.IsList (Shared.heap ⟨hp.push { cls := .type "list_iterator", data := .fields #[.ref l1, .int 0 0] }, g, d, tk, os⟩) l2 ys := a2.push _
      wp_walk using wpAny_pyIter_list L1, wpAny_pyIter_list L2
      exact ⟨_, rfl, hq⟩
    · have L1 : Heap.IsList (Shared.heap ⟨hp, g, d, tk, os⟩) l1 xs := a1
      have L2 : Heap.IsTuple (Shared.heap ⟨hp.push { cls := .type "list_iterator", data := .fields #[.ref l1, .int 0 0] }, g, d, tk, os⟩) l2 ys := a2.push _
      wp_walk using wpAny_pyIter_list L1, wpAny_pyIter_tuple L2
      exact ⟨_, rfl, hq⟩
theorem callZipS {t2 : Bool} {l1 l2 : Addr} {xs ys : Array Value} {Q : Value → Shared → Prop} (a1 : SqI false s.heap l1 xs) (a2 : SqI t2 s.heap l2 ys)
    (h : ∀ h', IsZipS h' (s.heap.objs.size + 4) (s.heap.objs.size + 2) (s.heap.objs.size + 3) .none → IsPair h' (s.heap.objs.size + 2) (.ref s.heap.objs.size) (.ref (s.heap.objs.size + 1)) →
      IsPair h' (s.heap.objs.size + 3) .none .none → ItI false h' s.heap.objs.size l1 0 → ItI t2 h' (s.heap.objs.size + 1) l2 0 → h'.objs.size = s.heap.objs.size + 5 →
      (∀ c o, s.heap.get? c = some o → h'.get? c = some o) → Q (.ref (s.heap.objs.size + 4)) { s with heap := h' }) :
    wpAny (model prog w) A (call (.type "zip") [.ref l1, .ref l2] sKw) Q E s := by
  refine callTyK F.called_zip (by decide) (zs_ct _ _) (zs_cn _ _) (fun obj => zs_ok obj _ _) F.entry_zip_new (zs_new t2 l1 l2 xs ys) (fun self => zs_init self _ _) ⟨a1, a2, ?_⟩
  have z1 : (zsH1 s.heap false l1).objs.size = s.heap.objs.size + 1 := Heap.size_push ..
  have z2 : (zsH2 s.heap false t2 l1 l2).objs.size = s.heap.objs.size + 2 := by rw [Heap.size_push, z1]
  have z3 : (zsH3 s.heap false t2 l1 l2).objs.size = s.heap.objs.size + 3 := by rw [Heap.size_push, z2]
  have z4 : (zsH4 s.heap false t2 l1 l2).objs.size = s.heap.objs.size + 4 := by rw [Heap.size_push, z3]
  have z5 : (zsH5 s.heap false t2 l1 l2).objs.size = s.heap.objs.size + 5 := by rw [Heap.size_push, z4]
  have g5 : (zsH5 s.heap false t2 l1 l2).get? (zsH4 s.heap false t2 l1 l2).objs.size = some _ := Heap.get?_push_size _ rfl
  have g4 : (zsH5 s.heap false t2 l1 l2).get? (zsH3 s.heap false t2 l1 l2).objs.size = some _ := Heap.get?_push_of_some _ (Heap.get?_push_size _ rfl)
  have g3 : (zsH5 s.heap false t2 l1 l2).get? (zsH2 s.heap false t2 l1 l2).objs.size = some _ := Heap.get?_push_of_some _ (Heap.get?_push_of_some _ (Heap.get?_push_size _ rfl))
  have g2 : (zsH5 s.heap false t2 l1 l2).get? (zsH1 s.heap false l1).objs.size = some (itO t2 l2) := Heap.get?_push_of_some _ (Heap.get?_push_of_some _ (Heap.get?_push_of_some _ (Heap.get?_push_size _ (by cases t2 <;> rfl))))
  have g1 : (zsH5 s.heap false t2 l1 l2).get? s.heap.objs.size = some (itO false l1) := Heap.get?_push_of_some _ (Heap.get?_push_of_some _ (Heap.get?_push_of_some _ (Heap.get?_push_of_some _ (Heap.get?_push_size _ (by rfl)))))
  have i1 : ItI false (zsH5 s.heap false t2 l1 l2) s.heap.objs.size l1 0 := by exact ⟨_, g1, rfl, rfl⟩
  have i2 : ItI t2 (zsH5 s.heap false t2 l1 l2) (zsH1 s.heap false l1).objs.size l2 0 := by cases t2 <;> exact ⟨_, g2, rfl, rfl⟩
  show _ ∧ _
  rw [z2, z3, z4] at g5
  rw [z1, z2] at g3
  rw [z3] at g4
  rw [z1] at i2
  rw [z4]
  exact ⟨⟨_, g5, rfl⟩, h _ g5 g3 g4 i1 i2 z5 fun c o x => Heap.get?_push_of_some _ (Heap.get?_push_of_some _ (Heap.get?_push_of_some _ (Heap.get?_push_of_some _ (Heap.get?_push_of_some _ x))))⟩
end
section
variable {prog : Program} {w : World} {A : Around} {E : Value → Shared → Prop} {s : Shared} {t1 t2 : Bool} {z TI TO i1 i2 l1 l2 : Addr} {k1 k2 : Nat} {xs ys : Array Value} {x y a b : Value}
theorem nextZipS_item {Q : Option Value → Shared → Prop} (D : ZipApart z TI TO i1 i2 l1 l2) (hz : IsZipS s.heap z TI TO .none) (hTI : IsPair s.heap TI (.ref i1) (.ref i2)) (hTO : IsPair s.heap TO a b)
    (h1 : ItI t1 s.heap i1 l1 k1) (h2 : ItI t2 s.heap i2 l2 k2) (hl1 : SqI t1 s.heap l1 xs) (hl2 : SqI t2 s.heap l2 ys) (hx : xs[k1]? = some x) (hy : ys[k2]? = some y)
    (hQ : ∀ h', IsZipS h' z TI TO (rawInt s.heap.objs.size) → IsPair h' TO x y → ItI t1 h' i1 l1 (k1 + 1) → ItI t2 h' i2 l2 (k2 + 1) → IsPair h' s.heap.objs.size x y → h'.objs.size = s.heap.objs.size + 1 →
      (∀ c o, c ≠ z → c ≠ TO → c ≠ i1 → c ≠ i2 → s.heap.get? c = some o → h'.get? c = some o) → Q (some (.ref s.heap.objs.size)) { s with heap := h' }) : wpAny (model prog w) A (pyNext (.ref z)) Q E s := by
  have hT : s.TypeIs (.ref z) "zip" := ⟨_, hz, rfl⟩
  unfold pyNext
  exact wpAny_bind (wpAny_attempt (wpAny_callSpecial?_slot (name := Str.ofString "__next__") hT F.slot_zip_next (wpAny_call_entry F.slot_zip_next hT F.entry_zip_next (zipS_item D hz hTI hTO h1 h2 hl1 hl2 hx hy fun h' a1 a2 a3 a4 a5 a6 a7 => wpAny_pure (hQ h' a1 a2 a3 a4 a5 a6 a7)) (F.args_zip_next_1 _))))
theorem nextZipS_end {Q : Option Value → Shared → Prop} (hh : A.handled = none) (D : ZipApart z TI TO i1 i2 l1 l2) (hz : IsZipS s.heap z TI TO .none) (hTI : IsPair s.heap TI (.ref i1) (.ref i2))
    (h1 : ItI t1 s.heap i1 l1 k1) (h2 : ItI t2 s.heap i2 l2 k2) (hl1 : SqI t1 s.heap l1 xs) (hl2 : SqI t2 s.heap l2 ys) (hx : xs[k1]? = none) (hy : ys[k2]? = none)
    (hQ : ∀ h', (∀ c o, c ≠ z → c ≠ TO → c ≠ i1 → c ≠ i2 → s.heap.get? c = some o → h'.get? c = some o) → Q none { s with heap := h' }) : wpAny (model prog w) A (pyNext (.ref z)) Q E s := by
  have hT : s.TypeIs (.ref z) "zip" := ⟨_, hz, rfl⟩
  unfold pyNext
  refine wpAny_bind (wpAny_attempt (wpAny_callSpecial?_slot (name := Str.ofString "__next__") hT F.slot_zip_next (wpAny_call_entry F.slot_zip_next hT F.entry_zip_next (zipS_end hh D hz hTI h1 h2 hl1 hl2 hx hy fun h' e hk he => ?_) (F.args_zip_next_1 _))))
  obtain ⟨o, ho, hc⟩ := he
  exact wpAny_bind (wpAny_isInstance (T := "StopIteration") (b := true) ⟨o, ho, hc⟩ isSubtype_stop (wpAny_pure (hQ _ hk)))
theorem goZipS {elts : List Expr} {x1} {pos : Pos} {T : Addr} {Q : Unit → Shared → Prop} (hz : IsZipS s.heap z TI TO (rawInt T)) (hQ : ∀ h', IsZipS h' z TI TO .none → Heap.SameBut z s.heap h' → Q () { s with heap := h' }) :
    wpAny (model prog w) A (letOwnedTupleGo (.Tuple elts x1 pos) (.ref z) (.ref T)) Q E s := by
  unfold letOwnedTupleGo
  refine wpAny_bind (wpAny_load hz ?_)
  show wpAny _ _ (if (["enumerate", "zip", "dict_itemiterator", "dict_reverseitemiterator", "odict_iterator", "itertools.zip_longest", "itertools.pairwise"].contains "zip" && (#[rawInt T, .bool false, .bool true, .ref TI, .ref TO] : Array Value)[0]? == some (rawInt T)) = true then _ else _) Q E s
  rw [if_pos (by simp)]
  refine wpAny_bind (wpAny_rule ?_)
  show wpAny _ _ (setField (.ref z) 0 .none) Q E s
  exact wpAny_setField_rec hz (by simp) fun h' hz' hs' => hQ h' hz' hs'
theorem iterZipS {f0 : Value} {Q : Value → Shared → Prop} (hz : IsZipS s.heap z TI TO f0) (h : Q (.ref z) s) : wpAny (model prog w) A (pyIter (.ref z)) Q E s := by
  have hT : s.TypeIs (.ref z) "zip" := ⟨_, hz, rfl⟩
  refine wpAny_pyIter_slot hT F.slot_zip_iter (wpAny_call_entry F.slot_zip_iter hT F.entry_zip_iter ?_ (F.args_zip_iter_1 _))
  show wpAny _ _ (ret (.ref z)) _ _ s
  exact wpAny_pure ⟨_, rfl, "zip", _, hT, F.slot_zip_next.lookup, h⟩
end
/-- a list (false) or a tuple (true) -/
def SqB (t : Bool) (K : PySem.W.Frag) (H : Hp) (a : Addr) (xs : List V) : Prop := if t = true then SqT K H a xs else SqL K H a xs
section
variable {X : Cx} {pins : List (Addr × Obj)} {σ : L2.St} {H : Hp} {s : Shared}
theorem sqB_at {t : Bool} {a : Addr} {xs : List V} (I : Inv X pins σ H s) (h : SqB t X.K H a xs) : ∃ its, Vals xs its ∧ SqI t s.heap a its.toArray ∧ a < s.heap.objs.size := by
  cases t
  · obtain ⟨its, rv, p, _⟩ := I.list (show SqL X.K H a xs from h); exact ⟨its, rv, p.isList, p.lt⟩
  · obtain ⟨its, rv, p, _⟩ := I.tuple (show SqT X.K H a xs from h)
    exact ⟨its, rv, p, by obtain ⟨o, h1, _⟩ := p; exact Heap.lt_size h1⟩
theorem sqB_inj {t : Bool} {a : Addr} {xs ys : List V} (I : Inv X pins σ H s) (h : SqB t X.K H a xs) (k : SqB t X.K H a ys) : xs = ys := by
  cases t
  · exact I.list_inj (show SqL X.K H a xs from h) (show SqL X.K H a ys from k)
  · exact I.tuple_inj (show SqT X.K H a xs from h) (show SqT X.K H a ys from k)
end
def ItzS (K : PySem.W.Frag) (t1 t2 : Bool) (a b : Addr) : It :=
  ⟨fun i H => ∃ (xs ys : List V) (x y : V), SqB t1 K H a xs ∧ SqB t2 K H b ys ∧ xs[i]? = some x ∧ ys[i]? = some y,
    fun i H v H' => ∃ T x y, v = .ref T ∧ H T = none ∧ H' = upd H T (.tup [x, y]) ∧ (∀ xs, SqB t1 K H a xs → xs[i]? = some x) ∧ ∀ ys, SqB t2 K H b ys → ys[i]? = some y,
    fun i H => ∃ xs ys : List V, SqB t1 K H a xs ∧ SqB t2 K H b ys ∧ xs.length ≤ i ∧ ys.length ≤ i⟩
theorem mem5 {c a1 a2 a3 a4 a5 : Addr} (h : c ∈ [a1, a2, a3, a4, a5]) : c = a1 ∨ c = a2 ∨ c = a3 ∨ c = a4 ∨ c = a5 := by simpa using h
theorem turn_zipS {P : Program} {w : World} {K : PySem.W.Frag} {elts : List Expr} {kk : Nat} {tpos : Pos} {t1 t2 : Bool} {a b z TI TO i1 i2 : Addr} (D : ZipApart z TI TO i1 i2 a b) :
    Turn P w K (.Tuple elts kk tpos) (ItzS K t1 t2 a b) [z, TI, TO, i1, i2] z (fun i h => IsZipS h z TI TO .none ∧ IsPair h TI (.ref i1) (.ref i2) ∧ (∃ x y, IsPair h TO x y) ∧ ItI t1 h i1 a i ∧ ItI t2 h i2 b i) where
  mem := by simp
  obj := fun i h st c hc => by
    obtain ⟨hz, hTI, ⟨x, y, hTO⟩, p1, p2⟩ := st
    have it : ∀ {t : Bool} {j l : Addr}, ItI t h j l i → ∃ o, h.get? j = some o ∧ ∀ v, o.data ≠ .cell v := fun {t j l} p => by
      cases t
      · obtain ⟨o, e, _, d⟩ := (show h.IsListIter j l i from p); exact ⟨o, e, fun v y => by rw [d] at y; cases y⟩
      · obtain ⟨o, e, _, d⟩ := (show h.IsTupleIter j l i from p); exact ⟨o, e, fun v y => by rw [d] at y; cases y⟩
    rcases mem5 hc with q | q | q | q | q
    · rw [q]; exact ⟨_, hz, fun v y => nomatch y⟩
    · rw [q]; exact ⟨_, hTI, fun v y => nomatch y⟩
    · rw [q]; exact ⟨_, hTO, fun v y => nomatch y⟩
    · rw [q]; exact it p1
    · rw [q]; exact it p2
  keep := fun i h h' st k => by
    obtain ⟨hz, hTI, ⟨x, y, hTO⟩, p1, p2⟩ := st
    exact ⟨k z (by simp) _ hz, k TI (by simp) _ hTI, ⟨x, y, k TO (by simp) _ hTO⟩, p1.at_ fun o q => k i1 (by simp) o q, p2.at_ fun o q => k i2 (by simp) o q⟩
  item := by
    intro X hP hw hK hc i pins s σ H E I hf st hg
    subst hP hw hK
    obtain ⟨hz, hTI, ⟨x0, y0, hTO⟩, p1, p2⟩ := st
    obtain ⟨xs, ys, x, y, hqx, hqy, hx, hy⟩ := hg
    obtain ⟨its, rv, q1, _⟩ := sqB_at I hqx
    obtain ⟨its2, rv2, q2, _⟩ := sqB_at I hqy
    obtain ⟨u, hu, ru⟩ := rv.get hx
    obtain ⟨u2, hu2, ru2⟩ := rv2.get hy
    have zl : z < s.heap.objs.size := Heap.lt_size hz
    refine nextZipS_item D hz hTI hTO p1 p2 q1 q2 (x := u) (y := u2) (by simpa using hu) (by simpa using hu2) fun h' z' O' p1' p2' hT hsz hk => ⟨_, rfl, goZipS (s := { s with heap := h' }) z' fun h'' z'' sb => ?_⟩
    have T2 : h''.get? s.heap.objs.size = some { cls := .type "tuple", data := .seq #[u, u2] } := (sb.2 _ (Nat.ne_of_gt zl)).trans hT
    have new : ObjOk X.prog X.w (upd H s.heap.objs.size (.tup [x, y])) h'' s.heap.objs.size (.tup [x, y]) := ⟨by show 2 ≤ sizeLine; decide, [u, u2], .cons ru (.cons ru2 .nil), ⟨_, T2, rfl, _, rfl⟩⟩
    have I1 : Inv X pins σ (upd H s.heap.objs.size (.tup [x, y])) { s with heap := h'' } :=
      I.turnedNew (t' := s.toks) (ch := [z, TI, TO, i1, i2]) (fun c o hb q => (sb.2 c (fun q' => hb (by simp [q']))).trans (hk c o (fun q' => hb (by simp [q'])) (fun q' => hb (by simp [q'])) (fun q' => hb (by simp [q'])) (fun q' => hb (by simp [q'])) q)) hf (Nat.le_refl _) new
    refine ⟨.ref s.heap.objs.size, _, I1, rfl, ⟨_, x, y, rfl, I.hok.fresh (Nat.le_refl _), rfl, fun l hl => by rw [sqB_inj I hl hqx]; exact hx, fun l hl => by rw [sqB_inj I hl hqy]; exact hy⟩, ⟨z'', ?_, ⟨u, u2, ?_⟩, ?_, ?_⟩, fun c hcm => ?_⟩
    · exact (sb.2 _ D.TIz).trans (hk _ _ D.TIz D.TITO D.TIi1 D.TIi2 hTI)
    · exact (sb.2 _ D.TOz).trans O'
    · exact p1'.at_ fun o q => (sb.2 _ D.i1z).trans q
    · exact p2'.at_ fun o q => (sb.2 _ D.i2z).trans q
    · have hlt : c < s.heap.objs.size := by
        rcases mem5 hcm with q | q | q | q | q
        · rw [q]; exact zl
        · rw [q]; exact Heap.lt_size hTI
        · rw [q]; exact Heap.lt_size hTO
        · rw [q]; exact p1.lt
        · rw [q]; exact p2.lt
      rw [upd_ne (Nat.ne_of_lt hlt)]
      exact (hf c hcm).1
  done := by
    intro X hP hw hK hc i pins s σ H E I hf st hg
    subst hP hw hK
    obtain ⟨hz, hTI, _, p1, p2⟩ := st
    obtain ⟨xs, ys, hqx, hqy, e1, e2⟩ := hg
    obtain ⟨its, rv, q1, _⟩ := sqB_at I hqx
    obtain ⟨its2, rv2, q2, _⟩ := sqB_at I hqy
    have n1 := rv.length; have n2 := rv2.length
    exact nextZipS_end (I.ok.hd hc) D hz hTI p1 p2 q1 q2 (by simp; omega) (by simp; omega) fun h' hk => ⟨rfl, I.turnedL (t' := s.toks) (ch := [z, TI, TO, i1, i2]) (fun c o hb q =>
      hk c o (fun q' => hb (by simp [q'])) (fun q' => hb (by simp [q'])) (fun q' => hb (by simp [q'])) (fun q' => hb (by simp [q'])) q) hf⟩
  self := fun A i s Q E st h => iterZipS st.1 h
/-! ### the rule, and its mirror -/
def iZipS (K : PySem.W.Frag) (ta tk : TA) : TI := fun σ H R => ta σ H fun vs H1 => tk σ H1 fun zs H2 => ∃ (a b : Addr) (t2 : Bool) (xs ys : List V), vs = [.ref a, .ref b] ∧ zs = [.bl true] ∧ SqB false K H2 a xs ∧ SqB t2 K H2 b ys ∧ R (ItzS K false t2 a b) H2
section
variable {M : Model} {A : Around} {E : Value → Shared → Prop} {s : Shared} {env : Env}
theorem callWith_tyK {T : String} {pos : Pos} {e : Expr} {rest : List Expr} {kws : List Keyword} {Q : Value → Shared → Prop}
    (h : wpAny M A (spliced (backTo pos (starEach (e :: rest) env))) (fun vs s1 => wpAny M A (evalAll ((backToKw pos (keywordEach kws env)).map (·.2))) (fun kvs s2 => wpAny M A (call (.type T) vs (((backToKw pos (keywordEach kws env)).filterMap (·.1)).zip kvs)) Q E s2) E s1) E s)
    (he : backTo pos (starEach (e :: rest) env) = (false, eval e env) :: backTo pos (starEach rest env)) (hplain : (backTo pos (starEach (e :: rest) env)).any (·.1) = false) (hall : (backToKw pos (keywordEach kws env)).all (·.1.isSome) = true) (hkw : (backToKw pos (keywordEach kws env)).any (·.1.isNone) = false) :
    wpAny M A (callWith pos (.type T) [] (backTo pos (starEach (e :: rest) env)) (backToKw pos (keywordEach kws env))) Q E s := by
  have k : wpAny M A (evalArgs (.type T) true (backTo pos (starEach (e :: rest) env)) (backToKw pos (keywordEach kws env))) (fun a s1 => wpAny M A (call (.type T) ([] ++ a.pos) a.kw) Q E s1) E s := by
    rw [he] at h ⊢
    exact evalArgs_kwB hall h
  unfold callWith
  refine wpAny_bind (wpAny_holding (wpAny_mono k (fun a s1 h1 => wpAny_bind (wpAny_standAt ?_)) fun _ _ x => x)); simp only [hplain, hkw, Bool.or_false]
  refine wpAny_bind (wpAny_pure (wpAny_bind (wpAny_mono h1 (fun r s2 hr => wpAny_bind (wpAny_holding (wpAny_point (wpAny_pure hr)))) fun _ _ x => x)))
end
theorem pi_zipS {X : Cx} {e e2 : Expr} {kws : List Keyword} {ta tk : TA} {p pos tpos : Pos} {elts : List Expr} {kk : Nat} (hg : Gl X "zip") (hm : X.mg "zip" = none) (ha : PA X [e, e2] ta) (hk : PK X kws tk)
    (hs : backTo pos (starEach [e, e2] X.env) = (false, eval e X.env) :: backTo pos (starEach [e2] X.env) := by rfl) (hpl : (backTo pos (starEach [e, e2] X.env)).any (·.1) = false := by rfl)
    (hkn : (backToKw pos (keywordEach kws X.env)).any (·.1.isNone) = false := by rfl) (hall : (backToKw pos (keywordEach kws X.env)).all (·.1.isSome) = true := by rfl) (hks : (backToKw pos (keywordEach kws X.env)).filterMap (·.1) = [("strict" : Str)] := by rfl) :
    PI X (.Tuple elts kk tpos) (.Call (.Name "zip" p) [e, e2] kws pos) (iZipS X.K ta tk) := by
  refine ⟨fun pins s σ H R I h => ?_⟩
  refine wpAny_Call_Name_kw (ld_blt I hg hm PyProof.Rows.boot_zip ?_ (by decide) (by decide))
  refine callWith_tyK (thn (ha.run pos pins _ σ H _ I h) fun us s1 ⟨vs, H1, I1, r1, q1⟩ => thn (hk.run pos pins s1 σ H1 _ I1 q1) fun ws s2 ⟨zs, H2, I2, r2, q2⟩ => ?_) hs hpl hall hkn
  obtain ⟨a, b, t2, xs, ys, rfl, rfl, ha, hb, q⟩ := q2
  rw [hks]
  cases r2 with
  | cons rz rr =>
    cases rr
    obtain rfl := rz
    cases r1 with
    | cons r rr =>
      cases rr with
      | cons r' rr =>
        cases rr
        cases r
        cases r'
        obtain ⟨its, rv, p1, la⟩ := sqB_at I2 ha
        obtain ⟨its2, rv2, p2, lb⟩ := sqB_at I2 hb
        show wpAny _ _ (call (.type "zip") [.ref a, .ref b] sKw) _ _ _
        refine callZipS p1 p2 fun h' hz hTI hTO h1 h2 hsz hk => iterZipS hz ?_
        have I3 : Inv X pins σ H2 { s2 with heap := h' } := I2.kept (t' := s2.toks) hk
        refine ⟨s2.heap.objs.size + 4, [s2.heap.objs.size + 4, s2.heap.objs.size + 2, s2.heap.objs.size + 3, s2.heap.objs.size, s2.heap.objs.size + 1], _, _, H2, rfl, I3, turn_zipS (PySem.W.ktu_apart s2.heap.objs.size a b la lb), ⟨hz, hTI, ⟨_, _, hTO⟩, h1, h2⟩, fun c hcm => ?_, q⟩
        have hle : s2.heap.objs.size ≤ c := by rcases mem5 hcm with z | z | z | z | z <;> (rw [z]; omega)
        exact I2.fpOk hle (I2.hok.fresh hle)
def sqV (x : Vl) (S : Sto) : Option (List Vl) := match x with
  | .tup xs => some xs
  | .ktp xs => some xs
  | .ref j => match S[j]? with
    | some (.lst xs) => some xs
    | _ => none
  | _ => none
def itZ (x y : Vl) (n : Nat) : Itm := ⟨n, fun i S => match sqV x S, sqV y S with
  | some xs, some ys => match xs[i]?, ys[i]? with
    | some a, some b => .yld (.tup [a, b]) S
    | none, none => .stop
    | _, _ => .bad
  | _, _ => .bad⟩
/-- a list is told by its place, a tuple by what it holds -/
def tagV : Vl → Option Bool
  | .tup _ => some true
  | .ktp _ => some true
  | .ref _ => some false
  | _ => none
def iZipM (a k : XA) : En → Sto → Out Itm := fun env S => (a env S).bind fun vs S1 => (k env S1).bind fun zs S2 => match vs, zs with
  | [x, y], [.bl true] => match sqV x S2, sqV y S2, tagV x with
    | some xs, some _, some false => .ok (itZ x y xs.length) S2
    | _, _, _ => .bad
  | _, _ => .bad
theorem sqV_tag {x : Vl} {S : Sto} {xs : List Vl} (h : sqV x S = some xs) : ∃ t, tagV x = some t := by
  unfold sqV at h
  split at h <;> first | exact ⟨_, rfl⟩ | cases h
theorem sqV_ok {N : Nms} {K : PySem.W.Frag} {m : List Addr} {S : Sto} {H : Hp} {x : Vl} {u : V} {xs : List Vl} {t : Bool} (s : SR N K m S H) (r : Vr N K m H x u) (h : sqV x S = some xs) (ht : tagV x = some t) : ∃ (a : Addr) (ys : List V), u = .ref a ∧ SqB t K H a ys ∧ Vrs N K m H xs ys := by
  unfold sqV at h
  split at h
  · cases h; cases ht
    obtain ⟨a, ys, rfl, h1, h2⟩ := r.asT rfl
    exact ⟨a, ys, rfl, h1, h2⟩
  · cases h; cases ht
    obtain ⟨a, ys, rfl, h1, h2⟩ := r.asT rfl
    exact ⟨a, ys, rfl, h1, h2⟩
  · cases ht
    split at h
    · rename_i hS
      cases h
      obtain ⟨a, rfl, hm⟩ := r.ref'
      obtain ⟨ys, h1, h2⟩ := s.lst hm hS
      exact ⟨a, ys, rfl, sq_of h1, h2⟩
    · cases h
  · cases h
theorem si_zipS {N : Nms} {X : Cx} {W : L2.St → XK} {e e2 : Expr} {kws : List Keyword} {f fk : XA} {p pos tpos : Pos} {elts : List Expr} {kk : Nat} (hg : Gl X "zip") (hm : X.mg "zip" = none) (ha : SA N X W [e, e2] f) (hk : SK N X W kws fk)
    (hs : backTo pos (starEach [e, e2] X.env) = (false, eval e X.env) :: backTo pos (starEach [e2] X.env) := by rfl) (hpl : (backTo pos (starEach [e, e2] X.env)).any (·.1) = false := by rfl)
    (hkn : (backToKw pos (keywordEach kws X.env)).any (·.1.isNone) = false := by rfl) (hall : (backToKw pos (keywordEach kws X.env)).all (·.1.isSome) = true := by rfl) (hks : (backToKw pos (keywordEach kws X.env)).filterMap (·.1) = [("strict" : Str)] := by rfl) :
    SI N X W (.Tuple elts kk tpos) (.Call (.Name "zip" p) [e, e2] kws pos) (iZipM f fk) := by
  obtain ⟨ta, p1, s1⟩ := ha.ex
  obtain ⟨tk, p2, s2⟩ := hk.ex
  refine ⟨_, pi_zipS hg hm p1 p2 hs hpl hkn hall hks, fun m S H env σ R s er h => s1.step s er h fun vs S1 m1 H1 us e1 sr1 r1 er1 h1 => s2.step sr1 er1 h1 fun zs S2 m2 H2 ws e2 sr2 r2 er2 h2 => ?_⟩
  have r1' := r1.mono e2
  split at h2
  · rename_i x y
    split at h2
    · rename_i xs ys' hx hy ht
      obtain ⟨u, ws1, rfl, ru, rw1⟩ := r1'.cons'
      obtain ⟨u2, ws2, rfl, ru2, rw2⟩ := rw1.cons'
      cases rw2.nil'
      obtain ⟨z, rfl, rz⟩ := r2.one
      cases rz
      obtain ⟨t2, ht2⟩ := sqV_tag hy
      obtain ⟨a, l1, rfl, q1, v1⟩ := sqV_ok sr2 ru hx ht
      obtain ⟨b, l2, rfl, q2, v2⟩ := sqV_ok sr2 ru2 hy ht2
      refine ⟨a, b, t2, l1, l2, rfl, rfl, q1, q2, h2.ok sr2 fun m' S' H' i e' s' => ?_⟩
      show YdR N X.K m' H' (ItzS X.K false t2 a b) i (match sqV x S', sqV y S' with
        | some xs, some ys => match xs[i]?, ys[i]? with
          | some a, some b => .yld (.tup [a, b]) S'
          | none, none => .stop
          | _, _ => .bad
        | _, _ => .bad)
      split
      · rename_i xs2 ys2 hx2 hy2
        obtain ⟨a', g1, ea, q3, v3⟩ := sqV_ok s' (ru.mono e') hx2 ht
        obtain ⟨b', g2, eb, q4, v4⟩ := sqV_ok s' (ru2.mono e') hy2 ht2
        cases ea
        cases eb
        split
        · rename_i c d hc hd
          obtain ⟨wc, hwc, rc⟩ := v3.get hc
          obtain ⟨wd, hwd, rd⟩ := v4.get hd
          refine ⟨⟨g1, g2, wc, wd, q3, q4, hwc, hwd⟩, fun u H'' hy' => ?_⟩
          obtain ⟨T, x1, y1, rfl, hn, rfl, k1, k2⟩ := hy'
          have e1 := k1 g1 q3
          have e2 := k2 g2 q4
          rw [hwc] at e1
          rw [hwd] at e2
          cases e1
          cases e2
          have ex : Ext X.K m' H' m' (upd H' T (.tup [wc, wd])) := Ext.same (Same.new hn)
          exact ⟨m', ex, s'.same (Same.new hn), .tup upd_same (.cons (rc.mono ex) (.cons (rd.mono ex) .nil))⟩
        · rename_i hc hd
          exact ⟨g1, g2, q3, q4, by rw [← v3.len]; exact List.getElem?_eq_none_iff.mp hc, by rw [← v4.len]; exact List.getElem?_eq_none_iff.mp hd⟩
        · exact trivial
      · exact trivial
    · exact h2.elim
  · exact h2.elim
end Nt

namespace Nt
open PySem PySem.Spec PyProof.Rows L2 Evl
/-! ### text.split(text) -/
def mSplit (x : Vl) (xs : List Vl) (S : Sto) : Out Vl := match x, xs with
  | .str a, [.str b] => if (b.length == 0) = false ∧ a.length + 2 ≤ sizeLine then .ok (.ref S.length) (S ++ [.lst ((Txt.split a b).map .str)]) else .bad
  | _, _ => .bad
theorem Vrs.ofStrs {N : Nms} {K : PySem.W.Frag} {m : List Addr} {H : Hp} : ∀ ys : List Str, Vrs N K m H (ys.map Vl.str) (ys.map V.str)
  | [] => .nil
  | y :: ys => .cons (.str y) (Vrs.ofStrs ys)
theorem mm_split {N : Nms} {X : Cx} : MtMM N X "str.split" mSplit := by
  refine ⟨_, mt_split, fun m S H x xs u us Q E s rx rs h => ?_⟩
  unfold mSplit at h
  split at h
  · cases rx
    obtain ⟨w, rfl, rw'⟩ := rs.one
    cases rw'
    split at h
    · rename_i hz
      exact ⟨_, _, rfl, rfl, hz.1, hz.2, fun p hp => h.to (Ext.app (Same.new hp)) (s.new (Same.new hp) hp upd_same (.lst (Vrs.ofStrs _))) s.ref_new⟩
    · exact h.elim
  · exact h.elim
/-! ### enumerate(list) -/
def itE (j n : Nat) : Itm := ⟨n, fun i S => match S[j]? with
  | some (.lst xs) => match xs[i]? with
    | some x => .yld (.tup [.int (i : Nat), x]) S
    | none => .stop
  | _ => .bad⟩
def iEnumM (fe : XE') : En → Sto → Out Itm := fun env S => (fe env S).bind fun x S1 => match x with
  | .ref j => match S1[j]? with
    | some (.lst xs) => .ok (itE j xs.length) S1
    | _ => .bad
  | _ => .bad
theorem si_enum {N : Nms} {X : Cx} {W : L2.St → XK} {e : Expr} {f : XE'} {p pos tpos : Pos} {elts : List Expr} {kk : Nat} (hg : Gl X "enumerate") (hm : X.mg "enumerate" = none) (ha : SE N X W e f) (hs : starEach [e] X.env = [(false, eval e X.env)] := by rfl) :
    SI N X W (.Tuple elts kk tpos) (.Call (.Name "enumerate" p) [e] [] pos) (iEnumM f) := by
  obtain ⟨ta, p1, s1⟩ := ha.ex
  refine ⟨_, pi_enum hg hm (pa_cons p1 pa_nil hs) hs, fun m S H env σ R s er h => s1.step s er h fun x S1 m1 H1 u e1 sr1 r1 er1 h1 => ?_⟩
  split at h1
  · rename_i j
    split at h1
    · rename_i xs hS
      obtain ⟨a, rfl, hma⟩ := r1.ref'
      obtain ⟨ys, h3, h4⟩ := sr1.lst hma hS
      refine ⟨a, ys, rfl, sq_of h3, h1.ok sr1 fun m' S' H' i e' s' => ?_⟩
      have hm' := e'.pre _ _ hma
      show YdR N X.K m' H' (Ite X.K a) i (match S'[j]? with
        | some (.lst xs) => match xs[i]? with
          | some x => .yld (.tup [.int (i : Nat), x]) S'
          | none => .stop
        | _ => .bad)
      split
      · rename_i xs2 hS2
        obtain ⟨zs, g1, g2⟩ := s'.lst hm' hS2
        split
        · rename_i x hx
          obtain ⟨w, h5, h6⟩ := g2.get hx
          refine ⟨⟨zs, w, sq_of g1, h5⟩, fun u H'' hy => ?_⟩
          obtain ⟨T, x', rfl, hn, rfl, hy⟩ := hy
          have := hy zs (sq_of g1)
          rw [h5] at this
          cases this
          have ex : Ext X.K m' H' m' (upd H' T (.tup [.int (i : Nat), w])) := Ext.same (Same.new hn)
          exact ⟨m', ex, s'.same (Same.new hn), .tup upd_same (.cons (.int _) (.cons (h6.mono ex) .nil))⟩
        · rename_i hx
          exact ⟨zs, sq_of g1, by rw [← g2.len]; exact List.getElem?_eq_none_iff.mp hx⟩
      · exact trivial
    · exact h1.elim
  · exact h1.elim
/-! ### word, *rest = a list -/
section
variable {X : Cx} {pos : Pos}
def gStarL (K : PySem.W.Frag) (n i : Nat) (t : TGs) : TG := fun v σ H Q => ∃ a xs, v = .ref a ∧ SqL K H a xs ∧ n ≤ xs.length + 1 ∧ i < n ∧
  ∀ p, H p = none → t (xs.take i ++ [.ref p] ++ (xs.drop i).drop (xs.length + 1 - n)) σ (upd H p (.lst ((xs.drop i).take (xs.length + 1 - n)))) Q
theorem pg_starL {es : List Expr} {k : Nat} {t : TGs} {n i : Nat} (hc : X.calm = true) (h : PGs X es t)
    (hlen : (assignEach es X.env).length = n := by rfl) (hstar : (assignEach es X.env).findIdx? (·.1) = some i := by rfl) : PG X (.Tuple es k pos) (gStarL X.K n i t) := by
  refine ⟨fun pins s σ H v u Q I r hw => ?_⟩
  obtain ⟨a, xs, e1, hq, hn, hi, hw⟩ := hw
  subst e1
  cases r
  obtain ⟨its, rv, pl, hz⟩ := I.list hq
  have hl : s.heap.IsList a its.toArray := pl.isList
  have hxl : xs.length = its.length := rv.length
  have hh := I.ok.hd hc
  have hlt : a ≠ s.heap.objs.size := by obtain ⟨o, ho, _⟩ := hl; exact Nat.ne_of_lt (Heap.lt_size ho)
  have hsz : its.toArray.size = its.length := by simp
  rw [PyProof.Rows.assign_Tuple]
  refine wpAny_bind (wpAny_standAt ?_)
  unfold unpack
  rw [hlen, hstar]
  refine wpAny_bind (wpAny_holding ?_)
  unfold unpackItems
  refine wpAny_bind ?_
  unfold notIterableAtAll
  refine wpAny_bind (wpAny_specialOf hl.typeIs slot_list_iter.lookup ?_)
  refine wpAny_pure ?_
  simp only [Bool.false_eq_true, if_false]
  refine wpAny_bind (wpAny_holding (wpAny_pyIter_list hl ?_))
  refine wpAny_bind (wpAny_holding (PySem.W.kun_draw hlt i 0 _ _ ⟨_, Heap.get?_push_size _ rfl, rfl, rfl⟩ (hl.push _) (by omega) fun h₁ hit₁ hs₁ => ?_))
  have hl₁ : h₁.IsList a its.toArray := (hl.push _).extBut hs₁.extBut hlt
  rw [Nat.zero_add] at hit₁
  have hit₁' := hit₁
  obtain ⟨oi, hoi, _⟩ := hit₁'
  have hl₁' := hl₁
  obtain ⟨ol, hol, _⟩ := hl₁'
  rw [List.drop_zero]
  have hfl : (its.toArray.toList.take i).length = i := by rw [List.length_take, Array.length_toList]; omega
  rw [if_neg (show ¬ ((its.toArray.toList.take i).length < i) by rw [hfl]; omega)]
  refine wpAny_bind (wpAny_holding (PySem.W.kun_collect (s := { s with heap := h₁ }) (T := "list_iterator") (.inr (.inr (.inl rfl))) (Walks.list (A := X.A.in1) hh s.heap.objs.size a hlt its.toArray) (fun j u st => st.1.typeIs) (k := i) (by omega) ⟨hit₁, hl₁⟩ (Heap.lt_size hoi) (Heap.lt_size hol) (fun h₂ tk hk => ?_) (by omega)))
  have hrl : (its.toArray.toList.drop i).length = its.length - i := by rw [List.length_drop, Array.length_toList, hsz]
  have hmid : (its.toArray.toList.drop i).length - (n - 1 - i) = xs.length + 1 - n := by rw [hrl]; omega
  show wpAny _ _ (if (its.toArray.toList.drop i).length < n - 1 - i then _ else _) _ _ _
  rw [if_neg (by rw [hrl]; omega)]
  show wpAny _ _ (newList ((its.toArray.toList.drop i).take ((its.toArray.toList.drop i).length - (n - 1 - i))) >>= fun d => pure (its.toArray.toList.take i ++ [d] ++ (its.toArray.toList.drop i).drop ((its.toArray.toList.drop i).length - (n - 1 - i)))) _ _ _
  rw [hmid]
  have he : Heap.ExtBut s.heap.objs.size s.heap h₂ := fun b o hb e => hk b o hb (hs₁.extBut b o hb (Heap.get?_push_of_some _ e))
  have I1 : Inv X pins σ H { s with heap := h₂, toks := tk } := I.kept (t' := tk) fun b o e => he b o (Nat.ne_of_lt (Heap.lt_size e)) e
  have htl : its.toArray.toList = its := by simp
  rw [htl]
  refine wpAny_bind (wpAny_newList ?_ ?_)
  · refine wpAny_pure ?_
    have hf : H h₂.objs.size = none := I1.hok.fresh (Nat.le_refl _)
    have I2 := I1.laid (a := h₂.objs.size) (o := .lst ((xs.drop i).take (xs.length + 1 - n))) (h' := h₂.push { cls := .type "list", data := .seq ((its.drop i).take (xs.length + 1 - n)).toArray }) (t' := tk) (fun b u e => Heap.get?_push_of_some _ e) (Nat.le_refl _)
      ⟨by rw [List.length_take, List.length_drop]; omega, _, 0, (rv.drop i).take _, Heap.get?_push_size _ rfl⟩
    exact h.run pins _ σ _ _ _ Q I2 (((rv.take i).append (.cons (show RelV (.ref h₂.objs.size) (.ref h₂.objs.size) from rfl) .nil)).append ((rv.drop i).drop _)) (hw _ hf)
  · rw [List.length_take, List.length_drop]; omega
end
def starL (v : Vl) (S : Sto) : Option (List Vl) := match v with
  | .ref j => match S[j]? with
    | some (.lst xs) => some xs
    | _ => none
  | _ => none
def gmStarL (g1 g2 : GM) : GM := fun v env S => match starL v S with
  | some (x :: xs) => (g1 x env (S ++ [.lst xs])).bind fun e S1 => g2 (.ref S.length) e S1
  | _ => .bad
theorem sg_starL {N : Nms} {X : Cx} {W : L2.St → XK} {pos : Pos} {k : Nat} {e1 e2 : Expr} {sp : Pos} {g1 g2 : GM} (hc : X.calm = true) (h1 : SG N X W e1 g1) (h2 : SG N X W e2 g2) (hW : ∀ σ σ', W σ = W σ' := by exact fun _ _ => rfl)
    (hlen : (assignEach [e1, .Starred e2 sp] X.env).length = 2 := by rfl) (hstar : (assignEach [e1, .Starred e2 sp] X.env).findIdx? (·.1) = some 1 := by rfl) (hs : (assignEach [.Starred e2 sp] X.env).map (·.2) = [assign e2 X.env] := by rfl)
    (hs2 : (assignEach [e1, .Starred e2 sp] X.env).map (·.2) = assign e1 X.env :: (assignEach [.Starred e2 sp] X.env).map (·.2) := by rfl) : SG N X W (.Tuple [e1, .Starred e2 sp] k pos) (gmStarL g1 g2) := by
  obtain ⟨t1, p1, s1⟩ := h1.ex
  obtain ⟨t2, p2, s2⟩ := h2.ex
  refine ⟨_, pg_starL (n := 2) (i := 1) hc (pgs_cons p1 (pgs_star p2 hs) hs2) hlen hstar, fun m S H env σ v u Q s er r h => ?_⟩
  unfold gmStarL at h
  split at h
  · rename_i x xs hv
    unfold starL at hv
    split at hv
    · split at hv
      · rename_i hS
        cases hv
        obtain ⟨a, rfl, hm⟩ := r.ref'
        obtain ⟨l, hl, rs⟩ := s.lst hm hS
        obtain ⟨y, zs, rfl, rx, rxs⟩ := rs.cons'
        refine ⟨a, y :: zs, rfl, sq_of hl, by rw [List.length_cons]; omega, by decide, fun q hq => ?_⟩
        have e0 : (y :: zs).length + 1 - 2 = zs.length := by rw [List.length_cons]; omega
        have e1' : ((y :: zs).drop 1).take ((y :: zs).length + 1 - 2) = zs := by rw [e0]; exact List.take_length
        have e2' : (y :: zs).take 1 ++ [V.ref q] ++ ((y :: zs).drop 1).drop ((y :: zs).length + 1 - 2) = [y, .ref q] := by
          rw [e0]
          show [y] ++ [V.ref q] ++ zs.drop zs.length = _
          rw [List.drop_length]
          rfl
        rw [e1', e2']
        have ex : Ext X.K m H (m ++ [q]) (upd H q (.lst zs)) := Ext.app (Same.new hq)
        have sr := s.new (Same.new hq) hq upd_same (.lst rxs)
        have h' := Post.mono ex h
        refine ⟨_, _, rfl, s1 _ _ _ env σ x y _ sr (er.mono ex) (rx.mono ex) ?_⟩
        cases qq : g1 x env (S ++ [.lst xs]) with
        | ok e3 S3 =>
          rw [qq] at h'
          intro m' H' σ' e' s' er'
          refine ⟨_, _, rfl, s2 m' S3 H' e3 σ' (.ref S.length) (.ref q) _ s' er' ((s.ref_new (H' := upd H q (.lst zs))).mono e') ?_⟩
          rw [hW σ' σ]
          have h2' := Post.mono e' h'
          cases q2 : g2 (.ref S.length) e3 S3 with
          | ok e4 S4 => 
            rw [Out.bind_ok, q2] at h2'
            exact fun m2 H2 σ2 e5 s5 er5 => ⟨rfl, h2' m2 H2 σ2 e5 s5 er5⟩
          | err c' x' S4 => rw [Out.bind_ok, q2] at h2'; exact h2'
          | bad => rw [Out.bind_ok, q2] at h2'; exact h2'.elim
        | err c' x' S3 => rw [qq] at h'; exact h'
        | bad => rw [qq] at h'; exact h'.elim
      · cases hv
    · cases hv
  · exact h.elim
end Nt

namespace Nt
open PySem PySem.Spec PyProof.Rows L2 Evl
open PySem.W (excTail excTail_contains excTail_pass excOver findIn)
/-! ### self.name = v on an exception without a dict, over any built-in base -/
section
open Builtin Builtin.ObjectAttr
variable {prog : Program} {w : World} {A : Around} {R : Result → Shared → Prop} {hp : Heap} {g : Array GenState} {d : Drawn} {t : Nat} {os : OsState}
theorem osaAny {K : PySem.W.Frag} {B : String} {bmB : List Value} {name : Str} {tk : Tok} {v : Value} {x C : Addr} {fv : Array Value} {cd : ClassData} (SB : StoreFacts B bmB "object.__setattr__" "object")
    (X : K.In hp) (hx : hp.get? x = some { cls := .ref C, data := .fields fv }) (hcd : PySem.W.clsIn K C = some cd) (hm : excTail bmB cd.mro = true) (hh : cd.hasDict = true) (ha : findIn K (.ref C) name = some none)
    (hq : ∀ h' tk' dx, (∀ b o, b ≠ x → hp.get? b = some o → h'.get? b = some o) → hp.objs.size ≤ dx → dx ≠ x → h'.get? x = some { cls := .ref C, dict := some dx, data := .fields fv } → h'.Ns1 dx (fun y => if y = name then some v else none) → R (.ok (.ret .none)) ⟨h', g, d, tk', os⟩) :
    codeAny (model prog w) A (.call (.builtin "object.__setattr__") ⟨[.ref x, .str name tk, v], []⟩) R ⟨hp, g, d, t, os⟩ := by
  have I : PySem.W.InstAt hp x { cls := .ref C, data := .fields fv } C none := ⟨hx, rfl, rfl, trivial⟩
  have SO := F.store_object
  have hob : cd.mro.contains (.type "object") = true := by rw [excTail_contains "object" _ hm]; exact SB.hasOwner
  have hne : cd.mro.isEmpty = false := by
    cases q : cd.mro with
    | nil => rw [q] at hob; cases hob
    | cons _ _ => rfl
  have hxs : x ≠ hp.objs.size := Nat.ne_of_lt (Heap.lt_size hx)
  have isob : PySem.W.Looks (model prog w) hp (isInstance (.ref x) (.type "object")) true := I.type.andThen (PySem.W.looks_mroIn X (by unfold PySem.W.mroIn; rw [hcd, Option.bind_some, if_neg (by rw [hne]; decide), hob]))
  refine codeAny_call_builtin SO.slot.plain SO.entry (@PySem.W.check_slot (model prog w) _ _ ⟨hp, g, d, t, os⟩ "object.__setattr__" "object" "__setattr__" (.ref x) [.str name tk, v] [] _ SO.kind SO.split isob (SO.args (.ref x) (.str name tk) v) ?_)
  have hmr : PySem.W.Looks (model prog w) hp (mroOf (.ref C)) cd.mro := (PySem.W.looks_clsIn X hcd).andThen .now
  have hst : PySem.W.Looks (model prog w) hp (storeTaker? none) none := .now
  have hcls : PySem.W.Looks (model prog w) hp (classData C) cd := PySem.W.looks_clsIn X hcd
  rw [PySem.W.osa_eq, refuse_eq]; refine wpAny_bind (wpAny_bind (I.type.at (wpAny_bind (hmr.at ?_))))
  rw [excTail_pass _ (SB.passes _) _ hm]; refine wpAny_pure (wpAny_bind (I.type.at (wpAny_bind ((PySem.W.looks_findIn X ha).at (wpAny_bind (hst.at ?_))))))
  show wpAny _ _ (storeInOwnDict (.ref x) (.ref C) (.str name tk) name v false) _ _ _
  obtain ⟨nm, bs, mro, ns, qn, hd, sn, sb, ab, col, del⟩ := cd
  dsimp only at hh; subst hh
  unfold storeInOwnDict ownDictForStores
  repeat (first | with_reducible refine HandSPX.store_in_new ?_ ?_ | with_reducible refine wpAny_loadPart_at hx ?_ | with_reducible refine hcls.at ?_ | wp_step)
  · exact ⟨_, #[], _, (Heap.get?_update_ne _ _ _ _ hxs.symm).trans (Heap.get?_push_at rfl rfl), rfl, fun e he => absurd he (by simp), fun _ => rfl⟩
  · intro h' tk' hn' hs
    have hx1 : (hp.push { cls := .type "dict", data := .dict #[] }).get? x = some { cls := .ref C, data := .fields fv } := Heap.get?_push_of_some _ hx
    exact hq h' tk' hp.objs.size (fun b o hb ho => (hs.2 b (Nat.ne_of_lt (Heap.lt_size ho))).trans ((Heap.get?_update_ne _ _ _ _ hb).trans (Heap.get?_push_of_some _ ho))) (Nat.le_refl _) hxs.symm ((hs.2 x hxs).trans (Heap.get?_update_self _ hx1 rfl)) hn'
end
section
variable {X : Cx} {pins : List (Addr × Obj)} {σ : L2.St} {H : Hp} {s : Shared} {a C dx : Addr} {f : Str} {y : V} {u : Value} {Q : Unit → Shared → Prop} {E : Value → Shared → Prop} {A : Around} {B newId initId : String} {bmB : List Value}
/-- self.f = y, the first field -/
theorem oxNew (SB : StoreFacts B bmB "object.__setattr__" "object") (T : OxC X.K C bmB newId) (I : Inv X pins σ H s) (e : H a = some (exo a C none)) (hno : findIn X.K (.ref C) f = some none) (ry : RelV y u)
    (h : ∀ dx s', H dx = none → dx ≠ a → Inv X pins σ (upd (upd H dx (exd dx [(f, y)])) a (exo a C (some dx))) s' → Q () s') : wpAny (model X.prog X.w) A (setAttr (.ref a) f u) Q E s := by
  obtain ⟨nm, q, N, bs, bm, sn, sub, ab, col, dd, k0, k1, k2, k3, k5, hC, hbm⟩ := T.cls
  have hcl : PySem.W.clsIn X.K C = some { name := nm, bases := bs, mro := .ref C :: bm, ns := N, qualname := q, hasDict := true, slotNames := sn, subclasses := sub, abstract := ab, collection := col, hasDel := false } := by unfold PySem.W.clsIn; (rw [hC] <;> rfl)
  obtain ⟨t1, ho⟩ := exo_at I.hok e
  obtain ⟨hp, g, d, t, os⟩ := s
  refine PySem.W.set_plain I.kIn (ox := { cls := .ref C, dict := none, data := .fields #[.ref t1, .none, .none, .none, .bool false, .none] }) (od := none) ⟨ho, rfl, rfl, trivial⟩ T.sa ?_
  refine osaAny SB I.kIn ho hcl (show excTail bmB (.ref C :: bm) = true from hbm) rfl hno (fun h' tk' dx k dn dne hx hn => ?_)
  have hnd : H dx = none := I.hok.fresh dn
  have nd : ∀ {b : Addr} {o : Obj}, hp.get? b = some o → b ≠ dx := fun {b o} q => Nat.ne_of_lt (Nat.lt_of_lt_of_le (Heap.lt_size q) dn)
  have na : ∀ {b : Addr}, H b = none → b ≠ a := fun {b} n z => by rw [z, e] at n; cases n
  have U : Un X.fs [] H (upd (upd H dx (exd dx [(f, y)])) a (exo a C (some dx))) hp h' := ⟨fun b o q n _ _ => k b o (na n) q, fun b o q n _ _ => ⟨o.slots, k b o (na n) q⟩, fun b o q n _ => by rw [upd_ne (na n), upd_ne (nd q)]; exact n, fun b o q _ => by
      by_cases hb : b = a
      · exact ⟨_, by rw [hb]; exact hx⟩
      · exact ⟨o, k b o hb q⟩, fun b xs q => by rw [upd_ne (at_ne e q exo_tup), upd_ne (ne_of_none q hnd)]; exact q, fun b o v q => by rw [upd_ne (at_ne e q exo_frz), upd_ne (ne_of_none q hnd)]; exact q, fun b ps q => ⟨#[], by rw [upd_ne (at_ne e q exo_tbl), upd_ne (ne_of_none q hnd), q]; simp⟩⟩
  refine h dx _ hnd dne (I.un (t' := tk') U fun b o q => ?_)
  by_cases hb : b = a
  · subst hb; rw [upd_same] at q; cases q; exact exo_ok hx
  · rw [upd_ne hb] at q
    by_cases hd : b = dx
    · subst hd; rw [upd_same] at q; cases q; exact exd_ok hn (relO_put (fs := []) ry fun g => True.intro)
    · rw [upd_ne hd] at q
      exact (I.hok b o q).stay (fun c v hc z => k c v (by
          rcases hc with hc | hc
          · rw [hc]; exact hb
          · exact at_ne e hc exo_own) z)
        (fun c hc => by rw [upd_ne (at_ne e hc exo_own), upd_ne (ne_of_none hc hnd)]; exact hc) (fun c xs hc => by rw [upd_ne (at_ne e hc exo_tup), upd_ne (ne_of_none hc hnd)]; exact hc)
/-- Base.__init__(self, ..) -/
theorem oxInit {us : List Value} {Q : Value → Shared → Prop} (F : ExcBaseFacts B newId initId bmB) (T : OxC X.K C bmB newId) (I : Inv X pins σ H s) (e : H a = some (exo a C none)) (hl : us.length ≤ sizeLine) (h : ∀ s', Inv X pins σ H s' → Q .none s') :
    wpAny (model X.prog X.w) A (call (.builtin initId) (.ref a :: us)) Q E s := by
  obtain ⟨nm, q, N, bs, bm, sn, sub, ab, col, dd, k0, k1, k2, k3, k5, hC, hbm⟩ := T.cls
  obtain ⟨t1, ho⟩ := exo_at I.hok e
  obtain ⟨hp, g, d, t, os⟩ := s
  refine wpAny_call (PySem.HandSPX.init_base F (fun Y => excTail_contains Y bm hbm) (I.kIn _ _ hC) ho hl fun h' t2 k hx => ?_)
  have J := I.write (t' := t) (x := a) (e := a) (o := exo a C none) (by rw [e]; exact True.intro) (.inl rfl) k ⟨_, hx⟩ (exo_ok hx)
  have eu : upd H a (exo a C none) = H := funext fun b => by
    by_cases hb : b = a
    · rw [hb, upd_same, e]
    · rw [upd_ne hb]
  rw [eu] at J
  exact h _ J
end
section
variable {X : Cx}
theorem mk_endN {pins : List (Addr × Obj)} {σ : L2.St} {H1 H2 : Hp} {Q : XK} {hp hp2 h2 : Heap} {g1 g2 : Array GenState} {d1 d2 : Drawn} {t1 t2 : Nat} {os1 os2 : OsState} {a C d : Addr} {fs : List (Str × V)} (T : Raises X (.ref C)) (I1 : Inv X pins σ H1 ⟨hp, g1, d1, t1, os1⟩)
    (ha : hp.objs.size ≤ a) (k : ∀ b o, hp.get? b = some o → hp2.get? b = some o) (un : Un (frs X.stack) [] (upd H1 a (exo a C none)) H2 hp2 h2) (hok : HOk X.prog X.w H2 h2) (ho : os2 = os1) (hb : AllBare g2)
    (ea : H2 a = some (exo a C (some d))) (ed : H2 d = some (exd d fs)) (hd1 : H1 d = none) (q : Q (.ref C) (some d) (upd (del H2 a) d (.xd fs))) : L2N.MkP X pins σ Q (.ref a) ⟨h2, g2, d2, t2, os2⟩ := by
  obtain ⟨t0, G, J, kG, ge, hoe, na⟩ := mk_end0 (d2 := d2) (t2 := t2) I1 ha k un hok ho hb ea ed hd1
  exact ⟨a, _, _, ⟨G, g2, d2, t2, os2⟩, _, .ref C, some d, rfl, J, kG, ge, hoe, ⟨rfl, rfl, fun vs e => by cases e; rfl⟩, rfl, rfl, na, rfl, hb, T, q⟩
end
/-! ### readings and rules -/
/-- Base.__init__(self, ..): Base a name -/
def tXi (C : Addr) (ta : TA) : TE := fun σ H Q => ta σ H fun vs H1 => ∃ (a : Addr) (ws : List V), vs = .ref a :: ws ∧ ws.length ≤ 1000 ∧ H1 a = some (exo a C none) ∧ Q .non H1
/-- self.f = e, the first field -/
def tXs (C : Addr) (f : Str) (to te : TE) : TS := fun D σ H => te σ H fun y H1 => to σ H1 fun x H2 => ∃ a : Addr, x = .ref a ∧ H2 a = some (exo a C none) ∧ ∀ dx, H2 dx = none → dx ≠ a → D.nx σ (upd (upd H2 dx (exd dx [(f, y)])) a (exo a C (some dx)))
section
variable {X : Cx} {o e : Expr} {es : List Expr} {to te : TE} {ta : TA} {f x : Str} {p p' p1 p2 pos : Pos} {C D : Addr} {B newId initId : String} {bmB : List Value}
theorem xiRun {pins : List (Addr × Obj)} {s : Shared} {σ : L2.St} {H : Hp} {Q : VK} (F : ExcBaseFacts B newId initId bmB) (T : OxC X.K C bmB newId) (I : Inv X pins σ H s) (ha : PA X (e :: es) ta) (h : tXi C ta σ H Q)
    (he : starEach (e :: es) X.env = (false, eval e X.env) :: starEach es X.env) (hpl : (backTo pos (starEach es X.env)).any (·.1) = false) :
    wpAny (model X.prog X.w) X.A (callWith pos (Value.builtin initId) [] (backTo pos (starEach (e :: es) X.env)) []) (EP X pins σ Q) X.xe s := by
  refine PyProof.Rows.callWith_method1 (thn (ha.run pos pins _ σ H _ I h) fun us s1 ⟨vs, H1, I1, r1, a, ws, ev, hl, ea, q⟩ => ?_) he hpl
  subst ev
  cases r1 with
  | @cons _ u0 _ ur ra rw' =>
    obtain rfl : u0 = Value.ref a := ra
    exact oxInit F T I1 ea (by rw [← Paired.length rw', sizeLine_eq]; omega) fun s' J => ⟨.non, H1, J, rfl, q⟩
/-- .. a built-in one -/
theorem pe_xiT {pl : Sem Bool} (F : ExcBaseFacts B newId initId bmB) (T : OxC X.K C bmB newId) (hg : Gl X x) (hm : X.mg x = none) (hb : bootBuiltins x = some (.type B)) (ht : typeOf (.type B) = pure (.type "type")) (hsb : Manifest.isStub B = false)
    (vV : PySem.W.findCls X.K (.type B) (.type "type") "__init__" = some (.val (.builtin initId))) (hh : PySem.W.handedIn (.builtin initId) = true) (ha : PA X (e :: es) ta) (hn : x ≠ "__name__") (hdb : (x == ("__debug__" : Str)) = false)
    (hc : eval (.Call (.Attribute (.Name x p1) "__init__" p2) (e :: es) [] pos) X.env = (do
      let ov ← eval (.Name x p1) X.env
      standAt p2.atName
      let (f, first) ← holding [ov] (getMethod ov "__init__" pl)
      callWith pos f first (backTo pos (starEach (e :: es) X.env)) (backToKw pos (keywordEach [] X.env))) := by rfl)
    (he : starEach (e :: es) X.env = (false, eval e X.env) :: starEach es X.env := by rfl) (hpl : (backTo pos (starEach es X.env)).any (·.1) = false := by rfl) :
    PE X (.Call (.Attribute (.Name x p1) "__init__" p2) (e :: es) [] pos) (tXi C ta) := by
  refine ⟨fun pins s σ H Q I h => PySem.W.methodCall_KW (ld_blt I hg hm hb ?_ hn hdb) hc⟩
  obtain ⟨m, fr⟩ := I.fr
  exact PySem.W.method_type fr I.ok.mod.kin ht hsb vV hh (xiRun F T (I.tok _) ha h he hpl)
/-- .. an own one -/
theorem pe_xiC {pl : Sem Bool} (F : ExcBaseFacts B newId initId bmB) (T : OxC X.K C bmB newId) (hg : Gl X x) (hm : X.mg x = some (.ref D)) (r : ClX.CRead X.K D (.type "type")) (vV : PySem.W.findCls X.K (.ref D) (.type "type") "__init__" = some (.val (.builtin initId))) (hh : PySem.W.handedIn (.builtin initId) = true) (ha : PA X (e :: es) ta) (hdb : (x == ("__debug__" : Str)) = false)
    (hc : eval (.Call (.Attribute (.Name x p1) "__init__" p2) (e :: es) [] pos) X.env = (do
      let ov ← eval (.Name x p1) X.env
      standAt p2.atName
      let (f, first) ← holding [ov] (getMethod ov "__init__" pl)
      callWith pos f first (backTo pos (starEach (e :: es) X.env)) (backToKw pos (keywordEach [] X.env))) := by rfl)
    (he : starEach (e :: es) X.env = (false, eval e X.env) :: starEach es X.env := by rfl) (hpl : (backTo pos (starEach es X.env)).any (·.1) = false := by rfl) :
    PE X (.Call (.Attribute (.Name x p1) "__init__" p2) (e :: es) [] pos) (tXi C ta) := by
  refine ⟨fun pins s σ H Q I h => PySem.W.methodCall_KW (ld_glob I hg hm ?_ hdb) hc⟩
  exact PySem.W.method_cls I.kIn r.ga (PySem.W.cls_value I.kIn r.rd vV hh (xiRun F T (I.tok _) ha h he hpl))
theorem ps_xst (SB : StoreFacts B bmB "object.__setattr__" "object") (T : OxC X.K C bmB newId) (hno : findIn X.K (.ref C) f = some none) (ho : PE X o to) (he : PE X e te) (hs : swapsWith e (some (.Attribute o f p')) pos.line X.env = pure false := by rfl) : PS X (.Assign [.Attribute o f p'] e pos) (tXs C f to te) := by
  refine ⟨fun pins s σ H D I h => ?_⟩
  refine plainObj_wpAny_Assign_Attribute (thn (he.run pins s σ H _ I h) fun v s1 ⟨y, H1, I1, r1, q1⟩ => thn (ho.run pins s1 σ H1 _ I1 q1) fun u s2 ⟨x, H2, I2, r2, a, ex, ea, q⟩ => ?_) hs
  subst ex
  obtain rfl : u = Value.ref a := r2
  exact oxNew SB T I2 ea hno r1 fun dx s' n ne J => ⟨σ, _, J, q dx n ne⟩
/-- C(..) is called -/
theorem oxCall {CX : CXT} {fI : Addr} {k : Nat} {fd : FuncData} {ps : List Str} {sp : Sp} {ds : List Value} {dvs : List V} {pins : List (Addr × Obj)} {σ : L2.St} {H1 : Hp} {s1 : Shared} {Q : XK} {vs : List V} {us : List Value} (F : ExcBaseFacts B newId initId bmB) (T : OxC X.K C bmB newId) (iC : findIn X.K (.ref C) "__init__" = some (some (.ref fI))) (tI : PySem.W.typeIn X.K (.ref fI) = some (.type "function"))
    (F1 : FnOk X.prog X.w X.K X.mg X.base CX k fI fd ps sp) (hr : Room (k + 1) X.A) (hb : Binds X.K fd ps ds) (hd : Vals dvs ds) (hx : Passes CX X (fun _ _ _ => False)) (I1 : Inv X pins σ H1 s1) (r1 : Vals vs us)
    (h : tMkO C sp dvs (fun _ H Q => Q vs H) σ H1 Q) : wpAny (model X.prog X.w) X.A (call (.ref C) us) (L2N.MkP X pins σ Q) X.xe s1 := by
  obtain ⟨hz, q1⟩ := h
  obtain ⟨nm, q, N, bs, bm, sn, sub, ab, col, dd, k0, k1, k2, k3, k5, hC, hbm⟩ := T.cls
  obtain ⟨hp, g, dr, tk, os⟩ := s1
  have hsz : hp.objs.size ≤ hp.objs.size + 1 := Nat.le_succ _
  have hn : H1 (hp.objs.size + 1) = none := I1.hok.fresh hsz
  have hq := q1 (hp.objs.size + 1) hn
  have kk : ∀ b o, hp.get? b = some o → ((hp.push (PySem.W.kdv_tup us)).push (PySem.HandSPX.excO C hp.objs.size)).get? b = some o := fun b o e => Heap.get?_push_of_some _ (Heap.get?_push_of_some _ e)
  have hget : ((hp.push (PySem.W.kdv_tup us)).push (PySem.HandSPX.excO C hp.objs.size)).get? (hp.objs.size + 1) = some (PySem.HandSPX.excO C hp.objs.size) := by heap_get
  have I2 : Inv X pins σ (upd H1 (hp.objs.size + 1) (exo (hp.objs.size + 1) C none)) ⟨(hp.push (PySem.W.kdv_tup us)).push (PySem.HandSPX.excO C hp.objs.size), g, dr, tk, os⟩ := I1.laid (t' := tk) (a := hp.objs.size + 1) (o := exo (hp.objs.size + 1) C none) (h' := (hp.push (PySem.W.kdv_tup us)).push (PySem.HandSPX.excO C hp.objs.size)) kk hsz (exo_ok hget)
  have r2 : Vals (V.ref (hp.objs.size + 1) :: (vs ++ dvs)) (Value.ref (hp.objs.size + 1) :: (us ++ ds)) := .cons rfl (r1.append hd)
  have hl : (Value.ref (hp.objs.size + 1) :: us ++ ds).length = ps.length := by
    have e := r2.length
    rw [F1.len _ _ _ _ hq] at e
    exact e.symm
  have hus : us.length ≤ sizeLine := by rw [← Paired.length r1, sizeLine_eq]; omega
  refine wpAny_call (PySem.HandSPX.call_own F (fun Y => excTail_contains Y bm hbm) (I1.kIn _ _ hC) (PySem.W.looks_findIn I1.kIn iC) (fun self => PySem.W.bind_fn I1.kIn self tI) hus (codeAny_mono (F1.run _ X.stack _ _ ⟨Value.ref (hp.objs.size + 1) :: us, []⟩ (Value.ref (hp.objs.size + 1) :: (us ++ ds)) _ _ (fun _ _ _ => False) (hr.make C us []) (I2.env0.make C us []) (hb _ (Value.ref (hp.objs.size + 1) :: us) I2.kIn hl) r2 hq) fun r s' hq' => ?_))
  cases r with
  | error er => exact hx pins σ _ _ er s' I2 hq'
  | ok fl =>
    cases fl with
    | ret u =>
      obtain ⟨v, H2, os2, bare2, un2, hok2, rv, ev, d, fs, ea, ed, hd1, q2⟩ := hq'
      subst ev
      obtain ⟨h2, g2, d2, t2, os'⟩ := s'
      exact ⟨rv, mk_endN (raises_own T.exC T.tyC) I1 hsz kk un2 hok2 os2 bare2 ea ed hd1 q2⟩
    | next => exact False.elim hq'
    | brk => exact False.elim hq'
    | cont => exact False.elim hq'
/-- C(e, ..) -/
theorem pmk_ox {CX : CXT} {fI : Addr} {k : Nat} {fd : FuncData} {ps : List Str} {sp : Sp} {ds : List Value} {dvs : List V} (F : ExcBaseFacts B newId initId bmB) (T : OxC X.K C bmB newId) (iC : findIn X.K (.ref C) "__init__" = some (some (.ref fI))) (tI : PySem.W.typeIn X.K (.ref fI) = some (.type "function"))
    (F1 : FnOk X.prog X.w X.K X.mg X.base CX k fI fd ps sp) (hr : Room (k + 1) X.A) (hb : Binds X.K fd ps ds) (hd : Vals dvs ds) (hx : Passes CX X (fun _ _ _ => False)) (hg : Gl X x) (hm : X.mg x = some (.ref C)) (ha : PA X (e :: es) ta)
    (hdb : (x == ("__debug__" : Str)) = false) (he : starEach (e :: es) X.env = (false, eval e X.env) :: starEach es X.env := by rfl) (hpl : (backTo pos (starEach es X.env)).any (·.1) = false := by rfl) : L2N.PMk X (.Call (.Name x p) (e :: es) [] pos) (tMkO C sp dvs ta) := fun pins s σ H Q I h =>
  wpAny_Call_Name_kw (ld_glob I hg hm (PySem.W.callWith_K (h₀ := X.base) I.ok.mod.kin T.kC (thn (ha.run pos pins s σ H _ I h) fun us s1 ⟨vs, H1, I1, r1, q1⟩ => ⟨I1.kIn, oxCall F T iC tI F1 hr hb hd hx I1 r1 q1⟩) he hpl) hdb)
theorem pmk_ox0 {CX : CXT} {fI : Addr} {k : Nat} {fd : FuncData} {ps : List Str} {sp : Sp} {ds : List Value} {dvs : List V} (F : ExcBaseFacts B newId initId bmB) (T : OxC X.K C bmB newId) (iC : findIn X.K (.ref C) "__init__" = some (some (.ref fI))) (tI : PySem.W.typeIn X.K (.ref fI) = some (.type "function"))
    (F1 : FnOk X.prog X.w X.K X.mg X.base CX k fI fd ps sp) (hr : Room (k + 1) X.A) (hb : Binds X.K fd ps ds) (hd : Vals dvs ds) (hx : Passes CX X (fun _ _ _ => False)) (hg : Gl X x) (hm : X.mg x = some (.ref C))
    (hdb : (x == ("__debug__" : Str)) = false) : L2N.PMk X (.Call (.Name x p) [] [] pos) (tMkO C sp dvs tNil) := fun pins s σ H Q I h =>
  wpAny_Call_Name_kw (ld_glob I hg hm (PySem.W.callWith_K0 I.kIn T.kC (oxCall (us := []) F T iC tI F1 hr hb hd hx I .nil h)) hdb)
end
/-! ### a text with None in it -/
def tFmN (te : TE) : TE := fun σ H Q => te σ H fun x H1 => (x = .non ∧ Q (.str "None") H1) ∨ ∃ i : Int, x = .int i ∧ i.natAbs.log2 < 1920 ∧ Q (.str (toString i)) H1
theorem pe_fmN {X : Cx} {e : Expr} {te : TE} {pos : Pos} (he : PE X e te) : PE X (.FormattedValue e (-1) none pos) (tFmN te) := by
  refine ⟨fun pins s σ H Q I h => wpAny_FormattedValue_plain (thn (he.run pins s σ H _ I h) fun v s1 ⟨x, H1, I1, r1, q⟩ => ?_)⟩
  rcases q with ⟨rfl, q⟩ | ⟨i, rfl, hz, q⟩
  · cases r1
    exact wpAny_formatField_none ⟨.str "None", H1, I1.tok _, ⟨_, rfl⟩, q⟩
  · obtain ⟨t, rfl⟩ := r1
    exact wpAny_formatField_int hz ⟨.str (toString i), H1, I1.tok _, ⟨_, rfl⟩, q⟩
/-! ### the __init__ of such a class: Base.__init__(self, text); self.f = x -/
def tIni (C : Addr) (f : Str) (te : TE) : TS := fun D σ H => ∃ a v, σ[0]? = some (some (.ref a)) ∧ σ[1]? = some (some v) ∧ H a = some (exo a C none) ∧ (∀ Q : VK, (∀ z, Q z H) → te σ H Q) ∧ ∀ dx, H dx = none → dx ≠ a → D.nx σ (upd (upd H dx (exd dx [(f, v)])) a (exo a C (some dx)))
theorem pss_ini {X : Cx} {C : Addr} {f : Str} {te : TE} {s1 s2 : Stmt} (h1 : PS X s1 (tDrop (tXi C (tCons (tVar 0) (tCons te tNil))))) (h2 : PS X s2 (tXs C f (tVar 0) (tVar 1))) : PSs X [s1, s2] (tIni C f te) :=
  ⟨fun pins s σ H D I ⟨a, v, g1, g2, g3, g4, g5⟩ => (pss_cons h1 (pss_cons h2 pss_nil)).run pins s σ H D I ⟨.ref a, g1, g4 _ fun z => ⟨a, [z], rfl, (by decide : (1 : Nat) ≤ 1000), g3, v, g2, .ref a, g1, a, rfl, g3, fun dx n ne => g5 dx n ne⟩⟩⟩
def spXI (C : Addr) (f : Str) (ok : V → Prop) : Sp := fun vs H Q _ => ∃ a v, vs = [.ref a, v] ∧ ok v ∧ H a = some (exo a C none) ∧ ∀ dx, H dx = none → dx ≠ a → Q .non (upd (upd H dx (exd dx [(f, v)])) a (exo a C (some dx)))
section
variable {P : Program} {w : World} {K : PySem.W.Frag} {mg : Str → Option Value} {base : Heap} {x qual y1 y2 : Str} {params : Arguments} {body : List Stmt} {scope : Scope} {dvs : List V} {kws : List (Str × V)} {k : Nat} {fA C : Addr} {f : Str} {te : TE} {ok : V → Prop}
/-- such an __init__, as its promise says -/
structure FnXI (P : Program) (w : World) (K : PySem.W.Frag) (mg : Str → Option Value) (base : Heap) (k : Nat) (fA : Addr) (T : FuncData → Prop) (ps : List Str) (C : Addr) (f : Str) (ok : V → Prop) : Prop where
  ex : ∃ fd, T fd ∧ FnOk P w K mg base CX0 k fA fd ps (spXI C f ok)
theorem fx_mk (F : ∃ fd, FunD K x qual params body scope dvs kws fA fd) (S : FnScope [y1, y2] [y1, y2] scope)
    (hbody : ∀ (cdv : Value) (A : Around) (outer : List Env) (s : Shared) (H : Hp) (E : XK), Room k (A.deeper (envOfC qual scope s.heap.objs.size fA cdv)) → PSs (cxOf CX0 P w K mg base [y1, y2] qual scope fA cdv A outer s H E) body (tIni C f te))
    (hte : ∀ (σ : L2.St) (H : Hp) (v : V) (Q : VK), σ[1]? = some (some v) → ok v → (∀ z, Q z H) → te σ H Q) :
    FnXI P w K mg base (k + 1) fA (FunD K x qual params body scope dvs kws fA) [y1, y2] C f ok := by
  obtain ⟨fd, F⟩ := F
  refine ⟨fd, F, F.ok S (fun vs H Q E ⟨a, v, e, _⟩ => by rw [e]; rfl) fun cdv A outer s H vs Q E hr h => ?_⟩
  obtain ⟨a, v, rfl, hv, ha, hq⟩ := h
  exact ⟨_, hbody cdv A outer s H E hr, a, v, rfl, rfl, ha, fun Q' hz => hte _ H v Q' rfl hv hz, fun dx n ne => hq dx n ne⟩
end
/-! ### raise C(e) -/
theorem upd_del {H : Hp} {a dx : Addr} {o1 o2 o3 o4 : HO} (ha : H a = none) (hd : dx ≠ a) : upd (del (upd (upd (upd H a o1) dx o2) a o3) a) dx o4 = upd H dx o4 := funext fun b => by
  by_cases h : b = dx
  · rw [h, upd_same, upd_same]
  · rw [upd_ne h, upd_ne h]
    by_cases h2 : b = a
    · rw [h2, del_same, ha]
    · rw [del_ne h2, upd_ne h2, upd_ne h, upd_ne h2]
/-- .. every parameter is given -/
theorem bx_all {K : PySem.W.Frag} {x qual : Str} {params : Arguments} {body : List Stmt} {scope : Scope} {f : Addr} {kws : List (Str × V)} {ps : List Str} {fd : FuncData} (F : FunD K x qual params body scope [] kws f fd)
    (h : ∀ (kV doc pm : Value) (an : Option Addr) (cdv ct : Value) (us : List Value), us.length = ps.length → bindArgs (PySem.W.fnOf x qual params body scope .none kV doc pm an cdv ct) ⟨us, []⟩ = pure (ps.zip us)) : ∃ ds, Vals [] ds ∧ Binds K fd ps ds := ⟨[], .nil, F.bindsN h⟩
def zRaiseX (c k : Nat) (okM : Vl → Bool) (fe : XE') : ZS := fun env S => (fe env S).bindS env fun v S1 => if okM v = true then .ok (.er c (some S1.length) env) (S1 ++ [.xd [(k, v)]]) else .bad
section
variable {N : Nms} {X : Cx} {W : L2.St → XK} {e : Expr} {fe : XE'} {x : Str} {p pos pos' : Pos} {B newId initId : String} {bmB : List Value} {fI : Addr} {T : FuncData → Prop} {ps : List Str} {ok : V → Prop} {okM : Vl → Bool} {j : Nat}
theorem ss_raiseX (c k : Nat) (hc : X.calm = true) (tk : L2N.Takes X (fun cls d σ H => W σ cls d H)) (F : ExcBaseFacts B newId initId bmB) (O : OxC X.K (He.ga X.K (N.g c)) bmB newId) (iC : findIn X.K (.ref (He.ga X.K (N.g c))) "__init__" = some (some (.ref fI))) (tI : PySem.W.typeIn X.K (.ref fI) = some (.type "function"))
    (F1 : FnXI X.prog X.w X.K X.mg X.base j fI T ps (He.ga X.K (N.g c)) (N.f k) ok) (hB : ∀ fd, T fd → ∃ ds, Vals [] ds ∧ Binds X.K fd ps ds) (hr : Room (j + 1) X.A) (hg : Gl X x) (gC : X.mg x = some (.ref (He.ga X.K (N.g c)))) (he : SE N X W e fe)
    (hok : ∀ m H v u, Vr N X.K m H v u → okM v = true → ok u) (hdb : (x == ("__debug__" : Str)) = false := by decide) (hs : starEach [e] X.env = (false, eval e X.env) :: starEach [] X.env := by rfl) (hpl : (backTo pos (starEach [] X.env)).any (·.1) = false := by rfl) :
    SS N X W (.Raise (some (.Call (.Name x p) [e] [] pos)) none pos') (zRaiseX c k okM fe) := by
  obtain ⟨te, p1, s1⟩ := he.ex
  obtain ⟨fd, hT, F1⟩ := F1.ex
  obtain ⟨ds, hds, hB⟩ := hB fd hT
  refine ⟨_, L2N.ps_raise (t := tMkO (He.ga X.K (N.g c)) (spXI (He.ga X.K (N.g c)) (N.f k) ok) [] (tCons te tNil)) hc tk (fun pins s σ H Q I h => ?_), fun m S H env σ D s er h => ?_⟩
  · exact pmk_ox F O iC tI F1 hr hB hds (fun _ _ _ _ _ _ _ z => z.elim) hg gC (pa_cons p1 pa_nil hs) hdb hs hpl pins s σ H Q I h
  · refine s1.stepS s er h fun v S1 m1 H1 u e1 sr1 r1 er1 h1 => ⟨by show (1 : Nat) ≤ 1000; decide, fun a ha => ?_⟩
    split at h1
    · rename_i hv
      refine ⟨a, u, rfl, hok _ _ _ _ r1 hv, upd_same, fun dx hdx hne => ⟨rfl, dx, [(N.f k, u)], upd_same, by rw [upd_ne hne]; exact upd_same, by rw [upd_ne hne] at hdx; exact hdx, ?_⟩⟩
      rw [upd_ne hne] at hdx
      rw [upd_del ha hne]
      have hS := Same.new (H := H1) (o := .xd [(N.f k, u)]) hdx
      have ex := Ext.app (K := X.K) (m := m1) (p := dx) hS
      refine h1 (m1 ++ [dx]) _ (some dx) σ ex (sr1.new hS hdx upd_same (.xd (.cons r1 .nil))) (er1.mono ex) ?_
      show (m1 ++ [dx])[S1.length]? = some dx
      rw [List.getElem?_append_right (by rw [sr1.len]; omega), sr1.len, Nat.sub_self]
      rfl
    · exact h1.elim
/-- raise C(): its field takes the default v -/
def zRaiseD (c k : Nat) (v : Vl) : ZS := fun env S => .ok (.er c (some S.length) env) (S ++ [.xd [(k, v)]])
theorem ss_raiseD (c k : Nat) {v : Vl} {dv : V} (hc : X.calm = true) (tk : L2N.Takes X (fun cls d σ H => W σ cls d H)) (F : ExcBaseFacts B newId initId bmB) (O : OxC X.K (He.ga X.K (N.g c)) bmB newId) (iC : findIn X.K (.ref (He.ga X.K (N.g c))) "__init__" = some (some (.ref fI))) (tI : PySem.W.typeIn X.K (.ref fI) = some (.type "function"))
    (F1 : FnXI X.prog X.w X.K X.mg X.base j fI T ps (He.ga X.K (N.g c)) (N.f k) ok) (hB : ∀ fd, T fd → ∃ ds, Vals [dv] ds ∧ Binds X.K fd ps ds) (hr : Room (j + 1) X.A) (hg : Gl X x) (gC : X.mg x = some (.ref (He.ga X.K (N.g c))))
    (hv : ∀ m H, Vr N X.K m H v dv) (hok : ok dv) (hdb : (x == ("__debug__" : Str)) = false := by decide) :
    SS N X W (.Raise (some (.Call (.Name x p) [] [] pos)) none pos') (zRaiseD c k v) := by
  obtain ⟨fd, hT, F1⟩ := F1.ex
  obtain ⟨ds, hds, hB⟩ := hB fd hT
  refine ⟨_, L2N.ps_raise (t := tMkO (He.ga X.K (N.g c)) (spXI (He.ga X.K (N.g c)) (N.f k) ok) [dv] tNil) hc tk (fun pins s σ H Q I h => ?_), fun m S H env σ D s er h => ⟨by show (0 : Nat) ≤ 1000; decide, fun a ha => ?_⟩⟩
  · exact pmk_ox0 F O iC tI F1 hr hB hds (fun _ _ _ _ _ _ _ z => z.elim) hg gC hdb pins s σ H Q I h
  · refine ⟨a, dv, rfl, hok, upd_same, fun dx hdx hne => ⟨rfl, dx, [(N.f k, dv)], upd_same, by rw [upd_ne hne]; exact upd_same, by rw [upd_ne hne] at hdx; exact hdx, ?_⟩⟩
    rw [upd_ne hne] at hdx
    rw [upd_del ha hne]
    have hS := Same.new (H := H) (o := .xd [(N.f k, dv)]) hdx
    have ex := Ext.app (K := X.K) (m := m) (p := dx) hS
    refine h (m ++ [dx]) _ (some dx) σ ex (s.new hS hdx upd_same (.xd (.cons (hv _ _) .nil))) (er.mono ex) ?_
    show (m ++ [dx])[S.length]? = some dx
    rw [List.getElem?_append_right (by rw [s.len]; omega), s.len, Nat.sub_self]
    rfl
end
end Nt

namespace Nt
open PySem PySem.Spec PyProof.Rows L2 Evl
/-! ### try .. except C as e, where e may have its own dict -/
def prX : Option Nat → Option Addr → Option (Nat × Addr)
  | some j, some d => some (j, d)
  | _, _ => none
section
variable {N : Nms} {K : PySem.W.Frag} {m : List Addr} {H : Hp} {env : En} {σ : L2.St} {i : Nat} {a : Addr} {x : Option (Nat × Addr)} {xs : List Vl} {us : List V} {v : Vl} {u : V} {S : Sto}
theorem Vr.toX (h : Vr N K m H v u) : Vr (N.hldX i a x) K m H v u := Vr.nm (N := N) (N' := N.hldX i a x) (fun _ => rfl) h
theorem Vr.ofX (h : Vr (N.hldX i a x) K m H v u) : Vr N K m H v u := Vr.nm (N := N.hldX i a x) (N' := N) (fun _ => rfl) h
theorem Vrs.ofX (h : Vrs (N.hldX i a x) K m H xs us) : Vrs N K m H xs us := Vrs.nm (N := N.hldX i a x) (N' := N) (fun _ => rfl) h
theorem SR.toX (h : SR N K m S H) : SR (N.hldX i a x) K m S H := SR.nm (N := N) (N' := N.hldX i a x) (fun _ => rfl) (fun _ => rfl) h
theorem SR.ofX (h : SR (N.hldX i a x) K m S H) : SR N K m S H := SR.nm (N := N.hldX i a x) (N' := N) (fun _ => rfl) (fun _ => rfl) h
theorem Post.ofX {Q : VK} {E : XK} {o : Out Vl} (h : Post (N.hldX i a x) K (Vr (N.hldX i a x) K) m H Q E o) : Post N K (Vr N K) m H Q E o := Post.nm (N := N.hldX i a x) (N' := N) (fun _ => rfl) (fun _ => rfl) h
theorem EnR.suiteX (h : EnR N K m H env σ) (hi : i < env.length) {j : Option Nat} {d : Option Addr} (xd : XD m j d) : EnR (N.hldX i a (prX j d)) K m H (env.set i Option.none) (σ.set i (some (.ref a))) := by
  refine ⟨by rw [List.length_set, List.length_set]; exact h.len, fun k w q => ?_, fun k b e => ?_, fun i' a' k b _ q => ?_⟩
  · rw [List.getElem?_set] at q
    rw [List.getElem?_set]
    split at q
    · first | cases q | (split at q <;> cases q)
    · rename_i z
      rw [if_neg z]
      obtain ⟨u, h1, h2⟩ := h.at_ k w q
      exact ⟨u, h1, h2.toX⟩
  · cases e
    rw [List.getElem?_set, if_pos rfl, if_pos (by rw [← h.len]; exact hi)]
  · cases j with
    | none => cases d <;> cases q
    | some j =>
      cases d with
      | none => cases q
      | some d => cases q; exact xd
theorem EnR.outX (h0 : N.xh = Option.none) (h : EnR (N.hldX i a x) K m H env σ) : EnR N K m H (env.set i Option.none) (σ.set i Option.none) := by
  refine ⟨by rw [List.length_set, List.length_set]; exact h.len, fun k w q => ?_, fun k b e => (by rw [h0] at e; cases e), fun k b j d e => (by rw [h0] at e; cases e)⟩
  rw [List.getElem?_set] at q
  rw [List.getElem?_set]
  split at q
  · split at q <;> cases q
  · rename_i z
    rw [if_neg z]
    obtain ⟨u, h1, h2⟩ := h.at_ k w q
    exact ⟨u, h1, h2.ofX⟩
end
theorem FnM.hldX {N : Nms} {P : Program} {w : World} {K : PySem.W.Frag} {mg : Str → Option Value} {base : Heap} {CX : CXT} {k i : Nat} {a f : Addr} {x : Option (Nat × Addr)} {T : FuncData → Prop} {ps : List Str} {mf : List Vl → Sto → Out Vl} (D : FnM N P w K mg base CX k f T ps mf) : FnM (N.hldX i a x) P w K mg base CX k f T ps mf := by
  obtain ⟨fd, h1, h2, h3⟩ := D.ex
  exact ⟨fd, h1, h2, h3.imp fun vs H Q E ⟨m, S, args, q1, q2, q3, q4⟩ => ⟨m, S, args, q1, q2.ofX, q3.ofX, q4.ofX⟩⟩
def catchX (i : Nat) (mt : Nat → Option Bool) (fs : Nat → Option Nat → ZS) (o : Out Fl) : Out Fl := match o with
  | .ok (.er c x e) S => match mt c with
    | some true => if i < e.length then outS i (fs c x (e.set i none) S) else .bad
    | some false => .ok (.er c x e) S
    | none => .bad
  | o => o
def zTryX (i : Nat) (mt : Nat → Option Bool) (fb : ZS) (fs : Nat → Option Nat → ZS) : ZS := fun env S => catchX i mt fs (fb env S)
section
variable {N : Nms} {X : Cx} {W : L2.St → XK} {x n : Str} {C : Addr} {i : Nat} {body suite : List Stmt} {b₀ : Stmt} {np pos pos' : Pos} {mt : Nat → Option Bool} {fb : ZS} {fs : Nat → Option Nat → ZS}
theorem ss_tryX (hs : X.stack = X.env :: X.outer) (hf : X.env.frame = some X.env.locals) (hN : X.N.Nodup) (hi : X.N[i]? = some n) (hln : X.env.kindOf n = some .local) (hc : Names X x (.ref C)) (tk : L2N.Takes X (fun cls d σ H => W σ cls d H))
    (hm : ∀ c b, mt c = some b → PySem.W.exmOne X.K (.ref (He.ga X.K (N.g c))) (.ref C) = some b)
    (hb : ∀ (W' : WX) (pn : List (Addr × Obj)) (xe : Value → Shared → Prop), L2N.Takes (X.tr pn xe) W' → PassesOwn (model X.prog X.w) X.A X.env xe → SSs N (X.tr pn xe) (fun σ cls d H => W' cls d σ H) body fb)
    (hsu : ∀ c, mt c = some true → ∀ (j : Option Nat) (d : Option Addr) (a : Addr) (oe : Obj) (pn : List (Addr × Obj)), (j = none ↔ d = none) → L2N.Zn (.ref (He.ga X.K (N.g c))) d oe → (∃ vs, oe.data = .fields vs) → SSs (N.hldX i a (prX j d)) (X.suite a ((a, oe) :: pn)) (fun _ => E0) (b₀ :: suite) (fs c j)) (h0 : N.xh = none := by rfl) :
    SS N X W (.Try body [.ExceptHandler (some (.Name x np)) (some n) (b₀ :: suite) pos'] [] [] pos) (zTryX i mt fb fs) := by
  refine ⟨_, L2N.ps_try_as (tb := fun W' => cSs N X.K (fun σ cls d H => W' cls d σ H) fb) (ts := fun a cls d D σ H => ∃ c j m S env, mt c = some true ∧ cls = .ref (He.ga X.K (N.g c)) ∧ (j = none ↔ d = none) ∧ SR (N.hldX i a (prX j d)) X.K m S H ∧ EnR (N.hldX i a (prX j d)) X.K m H env σ ∧ PostS (N.hldX i a (prX j d)) X.K m H D (fun _ => E0) (fs c j env S)) hs hf hN hi hln hc tk (fun W' pn xe h1 h2 => (hb W' pn xe h1 h2).pss) (fun a oe cls d pn hz hv => ⟨fun pins s σ H D I ⟨c, j, m, S, env, h1, h2, h3, h4, h5, h6⟩ => ?_⟩), fun m S H env σ D s er h => ⟨m, S, env, s, er, ?_⟩⟩
  · subst h2
    obtain ⟨t, p, sm⟩ := (hsu c h1 j d a oe pn h3 hz hv).ex
    exact p.run pins s σ H D I (sm m S H env σ D h4 h5 h6)
  · have h : PostS N X.K m H D W (catchX i mt fs (fb env S)) := h
    cases ho : fb env S with
    | bad => rw [ho] at h; exact h
    | err c x S1 => rw [ho] at h; exact h
    | ok fl S1 =>
      rw [ho] at h
      cases fl with
      | nx e => exact h
      | rt v => exact h
      | bk e => exact h
      | ct e => exact h
      | er c x e =>
        intro m' H' d σ' e' s' er' xd
        unfold catchX at h
        dsimp only at h
        split at h
        · rename_i hmt
          split at h
          · rename_i hlt
            refine ⟨true, hm c true hmt, fun _ a ha => ?_, fun z => (by cases z)⟩
            have hd : x = none ↔ d = none := by
              cases x <;> cases d <;> first | exact Iff.rfl | exact xd.elim | (constructor <;> intro z <;> cases z)
            refine ⟨c, x, m', S1, e.set i none, hmt, rfl, hd, s'.toX, er'.suiteX hlt xd, ?_⟩
            cases hr : fs c x (e.set i none) S1 with
            | bad => rw [hr] at h; exact h
            | err c2 x2 S2 => rw [hr] at h; exact h.elim
            | ok fl S2 =>
              rw [hr] at h
              cases fl with
              | nx e2 => exact fun m2 H2 σ2 e3 s3 er3 => h m2 H2 (σ2.set i none) (e'.trans e3) s3.ofX (er3.outX h0)
              | rt v => exact fun m2 H2 u e3 s3 r3 => h m2 H2 u (e'.trans e3) s3.ofX r3.ofX
              | bk e2 => exact h.elim
              | ct e2 => exact h.elim
              | er c2 x2 e2 => exact h.elim
          · exact h.elim
        · rename_i hmt
          exact ⟨false, hm c false hmt, fun z => (by cases z), fun _ => h m' H' d σ' e' s' er' xd⟩
        · exact h.elim
end
/-! ### a field of the caught exception: e.f -/
def xXf (j : Option Nat) (k : Nat) (cs : List Nat) (c : Nat) : XE' := fun env S => match j with
  | some j => match S[j]? with
    | some (.xd fs) => if cs.contains c = true then match fs.lookup k with
      | some v => .ok v S
      | none => .bad
      else .bad
    | _ => .bad
  | none => .bad
inductive XfOk (N : Nms) (K : PySem.W.Frag) (f : Str) : List Nat → Prop
  | nil : XfOk N K f []
  | cons {c : Nat} {l : List Nat} : XfC K (He.ga K (N.g c)) → PySem.W.findIn K (.ref (He.ga K (N.g c))) f = some none → XfOk N K f l → XfOk N K f (c :: l)
theorem XfOk.at_ {N : Nms} {K : PySem.W.Frag} {fl : Str} : ∀ {l : List Nat} {c : Nat}, XfOk N K fl l → l.contains c = true → XfC K (He.ga K (N.g c)) ∧ PySem.W.findIn K (.ref (He.ga K (N.g c))) fl = some none
  | _, _, .nil, h => by cases h
  | c' :: l, c, .cons h1 h2 r, e => by
    rw [List.contains_cons, Bool.or_eq_true] at e
    rcases e with e | e
    · rw [eq_of_beq e]; exact ⟨h1, h2⟩
    · exact r.at_ e
theorem se_xf {N : Nms} {X : Cx} {W : L2.St → XK} {i c k : Nat} {a : Addr} {j : Option Nat} {d : Option Addr} {oe : Obj} {pn : List (Addr × Obj)} {cs : List Nat} {n : Str} {p pos : Pos} (hj : j = none ↔ d = none) (hz : Zc (.ref (He.ga X.K (N.g c))) d oe) (hv : ∃ vs, oe.data = .fields vs) (hF : XfOk N X.K (N.f k) cs)
    (hi : X.N[i]? = some n) (hvis : Vis X.env.scope n) (hd : (n == ("__debug__" : Str)) = false := by decide) (hcd : (n == ("__classdict__" : Str)) = false := by decide) (hb : attributeBase (.Name n p) (N.f k) X.env (eval (.Name n p) X.env) = eval (.Name n p) X.env := by rfl) :
    SE (N.hldX i a (prX j d)) (X.suite a ((a, oe) :: pn)) W (.Attribute (.Name n p) (N.f k) pos) (xXf j k cs c) := by
  by_cases hc : cs.contains c = true
  · obtain ⟨c1, c2⟩ := hF.at_ hc
    refine ⟨_, pe_xf c1 c2 hz hv (pe_var (X := X.suite a ((a, oe) :: pn)) hi hvis hd hcd) hb, fun m S H env σ Q s er h => ?_⟩
    unfold xXf at h
    cases j with
    | none => exact h.elim
    | some j =>
      cases d with
      | none => exact absurd (hj.mpr rfl) (by simp)
      | some dd =>
        dsimp only at h
        split at h
        · rename_i fs hS
          rw [if_pos hc] at h
          split at h
          · rename_i v hl
            have hm := er.hj i a j dd rfl rfl
            obtain ⟨u, h1, h2⟩ := s.at_ hm hS
            cases h2 with
            | xd fr =>
              obtain ⟨w, h3, h4⟩ := fr.look hl
              exact ⟨.ref a, er.hd i a rfl, rfl, rfl, dd, _, w, rfl, h1, h3, h.ok s h4⟩
          · exact h.elim
        · exact h.elim
  · refine ⟨fun _ _ _ => False, ⟨fun pins s σ H Q I h => h.elim⟩, fun m S H env σ Q s er h => ?_⟩
    unfold xXf at h
    cases j with
    | none => exact h.elim
    | some j =>
      dsimp only at h
      split at h
      · rw [if_neg hc] at h; exact h.elim
      · exact h.elim
/-! ### what an __init__ says: its text -/
def okN (v : V) : Prop := v = .non ∨ ∃ i : Int, v = .int i ∧ i.natAbs.log2 < 1920
def okNm : Vl → Bool
  | .non => true
  | .int i => decide (i.natAbs.log2 < 1920)
  | _ => false
theorem okN_ok {N : Nms} {K : PySem.W.Frag} : ∀ m H v u, Vr N K m H v u → okNm v = true → okN u := fun m H v u r h => by
  cases r <;> first | exact .inl rfl | exact absurd h Bool.false_ne_true | skip
  exact .inr ⟨_, rfl, of_decide_eq_true h⟩
def okA (_ : V) : Prop := True
def okAm (_ : Vl) : Bool := true
theorem okA_ok {N : Nms} {K : PySem.W.Frag} : ∀ m H v u, Vr N K m H v u → okAm v = true → okA u := fun _ _ _ _ _ _ => trivial
theorem hte_c {s : Str} : ∀ (σ : L2.St) (H : Hp) (v : V) (Q : VK), σ[1]? = some (some v) → okA v → (∀ z, Q z H) → tC (.str s) σ H Q := fun _ _ _ _ _ _ h => h _
theorem sapp_len (a b : Str) : (a ++ b).length = a.length + b.length := by
  show (a.cps ++ b.cps).size = _
  rw [Array.size_append]; rfl
theorem hte_js {a b : Str} (ha : a.length ≤ 1000) (hb : b.length ≤ 1000) : ∀ (σ : L2.St) (H : Hp) (v : V) (Q : VK), σ[1]? = some (some v) → okN v → (∀ z, Q z H) → tJs [tC (.str a), tFmN (tVar 1), tC (.str b)] Str.empty σ H fun out H1 => Q (.str out) H1 := fun σ H v Q hv hk h => by
  have e0 : (Str.empty ++ a).length = a.length := by rw [sapp_len]; exact Nat.zero_add _
  refine ⟨a, rfl, by rw [e0, sizeLine_eq]; omega, v, hv, ?_⟩
  rcases hk with rfl | ⟨i, rfl, hi⟩
  · have e1 : (Str.empty ++ a ++ "None").length = a.length + 4 := by rw [sapp_len, e0]; rfl
    exact .inl ⟨rfl, "None", rfl, by rw [e1, sizeLine_eq]; omega, b, rfl, by rw [sapp_len, e1, sizeLine_eq]; omega, h _⟩
  · have e := int_text_length_le (k := 1920) (by decide) hi
    have e1 : (Str.empty ++ a ++ Str.ofString (toString i)).length ≤ a.length + 1921 := by rw [sapp_len, e0, PySem.ofString_length]; omega
    exact .inr ⟨i, rfl, hi, _, rfl, by rw [sizeLine_eq]; omega, b, rfl, by rw [sapp_len, sizeLine_eq]; omega, h _⟩
end Nt

namespace Nt
open PySem PySem.Spec PyProof.Rows L2 Evl
/-! ### text * int -/
def repS (a : Str) (k : Nat) : Str := ⟨(List.replicate k a.cps).foldl (· ++ ·) #[]⟩
theorem fold_size {x : Array Nat} : ∀ (k : Nat) (acc : Array Nat), ((List.replicate k x).foldl (· ++ ·) acc).size = acc.size + k * x.size
  | 0, acc => by rw [List.replicate_zero, List.foldl_nil, Nat.zero_mul]; rfl
  | k + 1, acc => by
    rw [List.replicate_succ, List.foldl_cons, fold_size k, Array.size_append, Nat.succ_mul]
    omega
theorem repS_len {a : Str} {k : Nat} : (repS a k).length = k * a.length := by
  have := fold_size (x := a.cps) k #[]
  show ((List.replicate k a.cps).foldl (· ++ ·) #[]).size = k * a.cps.size
  rw [this]; simp
theorem op_mulS {X : Cx} : OpR X (binaryOp .Mult) (fun x y H Q => ∃ (a : Str) (k : Int), x = .str a ∧ y = .int k ∧ (2 ≤ k ∧ k ≤ 100000) ∧ (1 ≤ a.length ∧ a.length ≤ 10) ∧ Q (.str (repS a k.toNat)) H) := by
  intro pins s σ H x y v u Q I rx ry h
  obtain ⟨a, k, rfl, rfl, ⟨h1, h2⟩, ⟨h3, h4⟩, q⟩ := h
  obtain ⟨t, rfl⟩ := rx
  obtain ⟨t', rfl⟩ := ry
  have hk : k.toNat ≤ 100000 := by omega
  have hm : k.toNat * a.length ≤ 100000 * 10 := Nat.mul_le_mul hk h4
  have hsz : (1000000 : Nat) ≤ sizeLine := by decide
  refine PySem.P.mul_str ?_ (fun _ _ => ?_) (fun _ _ => ?_) ?_
  · have e1 : ¬ k < -(2 ^ 63 : Int) := by omega
    have e2 : ¬ k ≥ (2 ^ 63 : Int) := by omega
    rw [decide_eq_false e1, decide_eq_false e2]; rfl
  · have hz : (a.length : Int) * k ≤ 10 * 100000 := Int.mul_le_mul (by omega) h2 (by omega) (by omega)
    have : (a.length : Int) ≤ (2 ^ 63 - 1) / k := Int.le_ediv_of_mul_le (by omega) (by omega)
    omega
  · have : a.length * k.toNat = k.toNat * a.length := Nat.mul_comm _ _
    show decide (_ > sizeLine) = false
    exact decide_eq_false (by omega)
  · rw [if_neg (by omega)]
    have e : (k == 1 || a.length == 0) = false := by
      rw [Bool.or_eq_false_iff]
      exact ⟨beq_eq_false_iff_ne.mpr (by omega), beq_eq_false_iff_ne.mpr (by omega)⟩
    rw [e, if_neg Bool.false_ne_true]
    refine ⟨?_, ⟨.str (repS a k.toNat), H, I.tok _, ⟨_, rfl⟩, q⟩⟩
    have := repS_len (a := a) (k := k.toNat)
    show (repS a k.toNat).length ≤ _
    rw [this]
    exact Nat.le_trans hm (by decide)
def vMulS (x y : Vl) (S : Sto) : Out Vl := match x, y with
  | .str a, .int k => if (2 ≤ k ∧ k ≤ 100000) ∧ (1 ≤ a.length ∧ a.length ≤ 10) then .ok (.str (repS a k.toNat)) S else .bad
  | _, _ => .bad
theorem opm_mulS {N : Nms} {X : Cx} : OpM N X (binaryOp .Mult) vMulS := by
  refine ⟨_, op_mulS, fun m S H x y u w Q E s rx ry h => ?_⟩
  unfold vMulS at h
  split at h
  · split at h
    · rename_i q; cases rx; cases ry; exact ⟨_, _, rfl, rfl, q.1, q.2, h.ok s (.str _)⟩
    · exact h.elim
  · exact h.elim
end Nt

namespace Nt
open PySem PySem.Spec PyProof.Rows L2 Evl
/-! ### isinstance of the caught exception, where it may have its own dict -/
def DictAt (H : Hp) (d : Option Addr) : Prop := ∀ dd, d = some dd → ∃ fs, H dd = some (.xd fs)
theorem inst_x {X : Cx} {a D : Addr} {d : Option Addr} {oe : Obj} {pn : List (Addr × Obj)} {pins : List (Addr × Obj)} {σ : L2.St} {H : Hp} {s : Shared} (hz : Zc (.ref D) d oe) (hf : ∃ vs, oe.data = .fields vs) (I : Inv (X.suite a ((a, oe) :: pn)) pins σ H s) (hd : DictAt H d) : ∃ od, PySem.W.InstAt s.heap a oe D od := by
  obtain ⟨hget, _⟩ := I.pin (a, oe) (List.mem_append.mpr (.inl List.mem_cons_self))
  obtain ⟨vs, hv⟩ := hf
  cases d with
  | none =>
    refine ⟨none, ?_⟩
    obtain ⟨oc, od, oda, osl⟩ := oe
    obtain ⟨h1, h2⟩ := hz
    dsimp only at h1 h2 hv
    subst h1 h2 hv
    exact ⟨hget, rfl, rfl, trivial⟩
  | some dd =>
    obtain ⟨fs, ea⟩ := hd dd rfl
    have hx : ObjOk X.prog X.w H s.heap dd (.xd fs) := I.hok dd _ ea
    obtain ⟨mA, hns, hr⟩ := hx
    obtain ⟨od, ho, hl⟩ := lookIn_ns hns
    exact ⟨some od, hget, hz.1, by unfold PySem.W.notCls; rw [hv] <;> rfl, by rw [hz.2]; exact ho⟩
theorem ExcC.kit {K : PySem.W.Frag} {D x : Addr} {ox : Obj} {od : Option Obj} (C : ExcC K D) : PySem.W.KitX K (.ref x) (.ref D) (fun h => PySem.W.InstAt h x ox D od) := PySem.W.kitx_exc (by obtain ⟨cd, hc, _⟩ := PySem.W.any_some C.hd; rw [hc]; rfl) C.hg C.hk C.hs C.ha C.hn C.ht C.hm
def rIsX (K : PySem.W.Frag) (D a : Addr) (d : Option Addr) : List V → Hp → VK → Prop := fun xs H Q => DictAt H d ∧ rIsE K D a xs H Q
theorem call_isX {X : Cx} {a D : Addr} {d : Option Addr} {oe : Obj} {pn : List (Addr × Obj)} (C : ExcC X.K D) (hz : Zc (.ref D) d oe) (hf : ∃ vs, oe.data = .fields vs) : CallR (X.suite a ((a, oe) :: pn)) (.builtin "isinstance") (rIsX X.K D a d) := by
  intro pins s σ H xs us Q I r h
  obtain ⟨hd, c, cv, b, rfl, hcv, e, q⟩ := h
  obtain ⟨u1, u2, rfl, rx, rt⟩ := vals2 r
  cases (show u1 = Value.ref a from rx)
  have ec := hcv _ rt
  subst ec
  obtain ⟨od, J⟩ := inst_x hz hf I hd
  exact PySem.W.kia_one (ExcC.kit C) I.kIn J e (fun z => nomatch z) fun tk => ⟨.bl b, H, I.kept (t' := tk) fun _ _ z => z, rfl, q⟩
def rIsXT (K : PySem.W.Frag) (D a : Addr) (d : Option Addr) : List V → Hp → VK → Prop := fun xs H Q => DictAt H d ∧ rIsET K D a xs H Q
theorem call_isXT {X : Cx} {a D : Addr} {d : Option Addr} {oe : Obj} {pn : List (Addr × Obj)} (C : ExcC X.K D) (hz : Zc (.ref D) d oe) (hf : ∃ vs, oe.data = .fields vs) : CallR (X.suite a ((a, oe) :: pn)) (.builtin "isinstance") (rIsXT X.K D a d) := by
  intro pins s σ H xs us Q I r h
  obtain ⟨hd, tp, cs, ws, b, rfl, hT, k, e, q⟩ := h
  obtain ⟨u1, u2, rfl, r1, r2⟩ := vals2 r
  cases (show u2 = Value.ref tp from r2)
  cases (show u1 = Value.ref a from r1)
  obtain ⟨od', J⟩ := inst_x hz hf I hd
  obtain ⟨_, its, rv, o, h1, h2, n, h3⟩ := (show ObjOk X.prog X.w H s.heap tp (.tup cs) from I.hok tp _ hT)
  have e3 := ClsV.all k rv
  subst e3
  obtain ⟨oc, od, dt, sl⟩ := o
  simp only at h2 h3
  subst h2 h3
  exact PySem.W.kia_tup (ExcC.kit C) I.kIn J h1 e (fun z => nomatch z) fun tk => ⟨.bl b, H, I.kept (t' := tk) fun _ _ z => z, rfl, q⟩
/-- the answer wants the exception's dict in the store -/
def hasXd (j : Option Nat) (S : Sto) : Bool := match j with
  | some j => match S[j]? with
    | some (.xd _) => true
    | _ => false
  | none => true
def xIsX (j : Option Nat) (ans : Vl → Option Bool) (f2 : XE') : XE' := fun env S => (f2 env S).bind fun v S1 => if hasXd j S1 = true then match ans v with
  | some b => .ok (.bl b) S1
  | none => .bad
  else .bad
theorem se_isX {N : Nms} {X : Cx} {W : L2.St → XK} {a : Addr} {j : Option Nat} {d : Option Addr} {oe : Obj} {pn : List (Addr × Obj)} {c i : Nat} {n : Str} {e2 : Expr} {f2 : XE'} {ans : Vl → Option Bool} {p p' pos : Pos} (hj : j = none ↔ d = none) (hE : ExcC X.K (He.ga X.K (N.g c))) (hz : Zc (.ref (He.ga X.K (N.g c))) d oe) (hv : ∃ vs, oe.data = .fields vs)
    (hi : X.N[i]? = some n) (hvis : Vis X.env.scope n) (hg : Gl X "isinstance") (hm : X.mg "isinstance" = none) (h2 : SE (N.hldX i a (prX j d)) (X.suite a ((a, oe) :: pn)) W e2 f2) (hans : ∀ v b, ans v = some b → AnsOk N X.K (He.ga X.K (N.g c)) v b)
    (hd : (n == ("__debug__" : Str)) = false := by decide) (hcd : (n == ("__classdict__" : Str)) = false := by decide)
    (he1 : starEach (.Name n p' :: [e2]) (X.suite a ((a, oe) :: pn)).env = (false, eval (.Name n p') (X.suite a ((a, oe) :: pn)).env) :: starEach [e2] (X.suite a ((a, oe) :: pn)).env := by rfl)
    (he2 : starEach (e2 :: []) (X.suite a ((a, oe) :: pn)).env = (false, eval e2 (X.suite a ((a, oe) :: pn)).env) :: starEach [] (X.suite a ((a, oe) :: pn)).env := by rfl)
    (hpl : (backTo pos (starEach [e2] (X.suite a ((a, oe) :: pn)).env)).any (·.1) = false := by rfl) : SE (N.hldX i a (prX j d)) (X.suite a ((a, oe) :: pn)) W (.Call (.Name "isinstance" p) [.Name n p', e2] [] pos) (xIsX j ans f2) := by
  obtain ⟨t2, p2, s2⟩ := h2.ex
  refine ⟨_, pe_callB ((call_isX hE hz hv).or (call_isXT hE hz hv)) hg hm rfl (pa_cons (pe_var hi hvis hd hcd) (pa_cons p2 pa_nil he2) he1) (by decide) (by decide) he1 hpl, fun m S H env σ Q s er h => ⟨.ref a, er.hd i a rfl, s2.step s er h fun y S1 m1 H1 u e1 sr1 r1 er1 k1 => ?_⟩⟩
  show _ ∨ _
  split at k1
  · rename_i hx
    have hD : DictAt H1 d := by
      intro dd ed
      subst ed
      cases j with
      | none => exact absurd (hj.mp rfl) (by simp)
      | some j =>
        unfold hasXd at hx
        dsimp only at hx
        split at hx
        · rename_i fs hS
          have hm := er1.hj i a j dd rfl rfl
          obtain ⟨u, h1, h2⟩ := sr1.at_ hm hS
          cases h2 with
          | xd fr => exact ⟨_, h1⟩
        · cases hx
    split at k1
    · rename_i b hb
      rcases hans y b hb with ⟨k, rfl, hk⟩ | ⟨t, rfl, ht⟩ | ⟨ks, rfl, hk⟩
      · cases r1
        exact .inl ⟨hD, _, _, b, rfl, fun u ru => by cases ru; rfl, hk, k1.ok sr1 (.bl b)⟩
      · cases r1
        exact .inl ⟨hD, _, _, b, rfl, fun u ru => by cases ru; rfl, ht, k1.ok sr1 (.bl b)⟩
      · obtain ⟨tp, ys, rfl, h1, h3⟩ := r1.tup'
        exact .inr ⟨hD, tp, ys, _, b, rfl, h1, fns_pair h3, hk, k1.ok sr1 (.bl b)⟩
    · exact k1.elim
  · exact k1.elim
end Nt

namespace Nt
open PySem PySem.Spec PyProof.Rows L2 Evl
theorem Nms.frX {N : Nms} {i j : Nat} {a : Addr} {x : Option (Nat × Addr)} (h : (i == j) = false) : (N.hldX i a x).fr j := fun b e => by
  injection e with e
  injection e with e _
  rw [e] at h
  simp at h
/-! ### where an exception is handled: the end of a list's walk; any(list) -/
open HotX (HotAt raiseNew_hot)
section
variable {prog : Program} {w : World} {A : Around} {E : Value → Shared → Prop} {s : Shared}
theorem next_list_end_hot {it l x1 : Addr} {i : Nat} {items : Array Value} {Q : Option Value → Shared → Prop} (hot : HotAt A x1 s.heap) (hxi : x1 ≠ it) (hit : s.heap.IsListIter it l i) (hl : s.heap.IsList l items) (hx : items[i]? = none)
    (hQ : ∀ h', Heap.ExtBut it s.heap h' → Q none { s with heap := h' }) : wpAny (model prog w) A (pyNext (.ref it)) Q E s := by
  obtain ⟨o, ho, hc, hd⟩ := id hit
  obtain ⟨ol, hol, _, nl, hdl⟩ := hl
  obtain ⟨hh, o1, vs1, h1, d1, c1⟩ := hot
  unfold pyNext
  refine wpAny_bind (wpAny_attempt (wpAny_callSpecial?_slot (name := Str.ofString "__next__") hit.typeIs slot_listiter_next
    (wpAny_call_entry slot_listiter_next hit.typeIs entry_listiter_next ?_ (args_listiter_next _))))
  show wpAny _ _ (field (.ref it) 0 >>= _) _ _ s
  refine wpAny_bind (wpAny_field ho hd (x := .ref l) rfl ?_)
  show wpAny _ _ (if (Value.ref l == Value.none) = true then _ else _) _ _ s
  rw [if_neg (show ¬ ((Value.ref l == Value.none) = true) from Bool.false_ne_true)]
  show wpAny _ _ (field (.ref it) 1 >>= _) _ _ s
  refine wpAny_bind (wpAny_field ho hd (x := .int i 0) rfl ?_)
  show wpAny _ _ (seqItems? (.ref l) >>= _) _ _ s
  refine wpAny_bind (wpAny_seqItems hol hdl ?_)
  simp only [Int.toNat_natCast, hx]
  refine wpAny_bind (wpAny_rule (wpAny_bind (wpAny_setField ho hd (by simp) ?_)))
  show wpAny _ _ (newExc (.type "StopIteration") [] >>= _) _ _ _
  refine wpAny_bind ?_
  simp only [newExc, newTuple]
  refine wpAny_bind (wpAny_newObj_type ?_ (by size_fits))
  refine wpAny_bind (m := firstArgMember _ _) (wpAny_of_eq (a := Value.none) (by first | rfl | (simp only [firstArgMember]; rfl)) ?_)
  refine wpAny_newObj_type ?_ (by size_fits)
  have eb := (Heap.SameBut.update (h := s.heap) (a := it) (f := Obj.mapFields (·.setIfInBounds 0 .none))).extBut
  have h1' := eb _ _ hxi h1
  refine raiseNew_hot ⟨hh, o1, vs1, Heap.get?_push_of_some _ (Heap.get?_push_of_some _ h1'), d1, c1⟩ (Nat.ne_of_lt (Heap.lt_size (Heap.get?_push_of_some _ h1'))) (Heap.get?_push_size _ rfl) rfl (by first | (simp; done) | (simp; omega) | (simp only [Array.size_append]; simp; omega)) ?_
  refine wpAny_bind (wpAny_isInstance (T := "StopIteration") (b := true) ⟨_, Heap.get?_update_self _ (Heap.get?_push_size _ rfl) rfl, rfl⟩ isSubtype_stop ?_)
  refine wpAny_pure (hQ _ fun b o' hb e => ?_)
  have e2 := Heap.get?_push_of_some { cls := .type "tuple", data := .seq #[] 0 } (eb b o' hb e)
  first
  | (rw [Heap.get?_update_other _ _ (Nat.ne_of_gt (Heap.lt_size e2))]; exact Heap.get?_push_of_some _ e2)
  | (rw [Heap.get?_update_other _ _ (Nat.ne_of_gt (Heap.lt_size (Heap.get?_push_of_some _ (eb b o' hb e))))]; exact Heap.get?_push_of_some _ (Heap.get?_push_of_some _ (eb b o' hb e)))
theorem walks_list_hot {x1 : Addr} (hh : A.handled = some (.ref x1)) (I ax : Addr) (hne : ax ≠ I) (hx : x1 ≠ I) (items : Array Value) :
    Walks prog w A I [I, ax, x1] [I] items.size (fun i v => items[i]? = some v) (fun i h => (h.IsListIter I ax i ∧ h.IsList ax items) ∧ ∃ (o : Obj) (vs : Array Value), h.get? x1 = some o ∧ o.data = .fields vs ∧ vs[2]? = some .none) where
  sub := fun b hb => by simp at hb; simp [hb]
  frame := fun _ _ _ ⟨st, o, vs, e, d, c⟩ hk => ⟨⟨st.1.at fun o e => hk I (by simp) o e, st.2.at fun o e => hk ax (by simp) o e⟩, o, vs, hk x1 (by simp) o e, d, c⟩
  item := fun i s Q E hi ⟨st, o, vs, e, d, c⟩ hQ => by
    refine wpAny_pyNext_list_item st.1 st.2 (x := items[i]) (by simp [hi]) fun h' hit' hs' => ?_
    exact hQ _ h' s.toks (by simp [hi]) ⟨⟨hit', st.2.extBut hs'.extBut hne⟩, o, vs, hs'.extBut _ _ hx e, d, c⟩ fun b o hb e => hs'.extBut b o (fun h => hb (by simp [h])) e
  done := fun s Q E ⟨st, o, vs, e, d, c⟩ hQ => next_list_end_hot ⟨hh, o, vs, e, d, c⟩ hx st.1 st.2 (by simp) fun h' he' => hQ h' s.toks fun b o hb e => he' b o (fun h => hb (by simp [h])) e
  self := fun _ _ _ _ st hQ => wpAny_pyIter_listiter st.1.1 hQ
end
section
variable {X : Cx} {a : Addr} {oe : Obj} {pn : List (Addr × Obj)}
theorem cr_anyH (hv : ∃ vs, oe.data = .fields vs) (hn : PXN.CtxN oe) : CallR (X.suite a ((a, oe) :: pn)) (.builtin "any") (rAny X.K) := by
  intro pins s σ H vs us Q I r h
  obtain ⟨l, bs, rfl, hs, q⟩ := h
  obtain ⟨its, rv, hl, _⟩ := I.list hs
  rw [Vals.ref1 r]
  have hb := rv.bls
  obtain ⟨hget, _⟩ := I.pin (a, oe) (List.mem_append.mpr (.inl List.mem_cons_self))
  obtain ⟨fv, hd⟩ := hv
  refine call_any_walk (iter_any hl.isList fun s₂ e2 st hne => ?_)
  subst e2
  refine ⟨_, _, _, _, _, _, _, rfl, walks_list_hot (A := (X.suite a ((a, oe) :: pn)).A.in1) (x1 := a) rfl _ l hne (Nat.ne_of_lt (Heap.lt_size hget)) its.toArray, ⟨st, oe, fv, Heap.get?_push_of_some _ hget, hd, hn fv hd⟩, truth_bools hb, fun h' tk hk => ?_⟩
  refine ⟨.bl _, H, I.kept fun b o eo => hk b o (fun hmem => ?_) (Heap.get?_push_of_some _ eo), ?_, q⟩
  · rcases List.mem_cons.mp hmem with e1 | hmem
    · exact absurd (e1 ▸ Heap.lt_size eo) (Nat.lt_irrefl _)
    · cases hmem
  · show Value.bool _ = Value.bool _
    rw [← L2.any_range, hb, List.size_toArray, List.length_map]
theorem cm_anyH {N : Nms} (hv : ∃ vs, oe.data = .fields vs) (hn : PXN.CtxN oe) : CallM N (X.suite a ((a, oe) :: pn)) (.builtin "any") vAny := by
  refine ⟨_, cr_anyH hv hn, fun m S H xs us Q E s r h => ?_⟩
  unfold vAny at h
  split at h
  · obtain ⟨u, rfl, ru⟩ := r.one
    obtain ⟨a, rfl, h1⟩ := ru.ref'
    split at h
    · rename_i hS
      split at h
      · rename_i ns hn
        obtain ⟨ys, h2, h3⟩ := s.lst h1 hS
        rw [toBools_ok hn h3] at h2
        exact ⟨a, ns, rfl, sq_of h2, h.ok s (.bl _)⟩
      · exact h.elim
    · exact h.elim
  · exact h.elim
end
end Nt

namespace Nt
open PySem PySem.Spec PyProof.Rows L2 Evl
/-! ### programs.py: the mirror -/
def vars : List Str := ["a", "b"]
def comps : List Str := ["==", "!=", "<"]
def dirs : List Str := ["+", "-", "="]
def isI : PyData → Bool
  | .int _ => true
  | _ => false
def isOne (ns : List Str) : PyData → Bool
  | .str s => ns.contains s
  | _ => false
def isVal : PyData → Bool
  | .int i => decide (0 ≤ i) && decide (i < 16)
  | _ => false
def isTerm (d : PyData) : Bool := isVal d || isOne vars d
def isCond : PyData → Bool
  | .tuple [v, s, t] => isOne vars v && (isOne comps s && isTerm t)
  | _ => false
def pSet : List PyData → Bool
  | [v, x] => isOne vars v && isVal x
  | _ => false
def pAdd : List PyData → Bool
  | [v, x] => isOne vars v && isTerm x
  | _ => false
def pWait : List PyData → Bool
  | [.int i] => decide (1 ≤ i) && decide (i ≤ 1000000000000000000000000000000)
  | _ => false
def pAsk : List PyData → Bool
  | [s, t, v] => isOne dirs s && (isTerm t && isOne vars v)
  | _ => false
def pAns : List PyData → Bool
  | [.int i] => decide (0 ≤ i) && decide (i ≤ 1)
  | _ => false
def pTerm : List PyData → Bool
  | [t] => isTerm t
  | _ => false
theorem in_strs (s : Str) (ns : List Str) : inV (.str s) (ns.map V.str) = ns.contains s := by
  unfold inV
  rw [List.contains_eq_any_beq, List.any_map]
  congr 1
  funext y
  show eqV (V.str y) (V.str s) = (s == y)
  simp only [eqV]
  by_cases h : y = s
  · subst h; simp
  · have h1 : (y == s) = false := beq_eq_false_iff_ne.mpr h
    have h2 : (s == y) = false := beq_eq_false_iff_ne.mpr fun q => h q.symm
    rw [h1, h2]
theorem flat_strs (ns : List Str) : (ns.map V.str).all flatV = true := by
  rw [List.all_map]
  exact List.all_eq_true.mpr fun _ _ => rfl
def spOne (K : PySem.W.Frag) : Sp := fun vs H Q _ => ∃ (v : V) (d : PyData) (a : Addr) (ns : List Str), vs = [v, .ref a] ∧ Dp K H v d ∧ SqT K H a (ns.map V.str) ∧ ∀ H', Same H H' → Q (.bl (isOne ns d)) H'
theorem spvOne {K : PySem.W.Frag} {v : V} {d : PyData} {a : Addr} {ns : List Str} {H : Hp} (h : Dp K H v d) (ha : SqT K H a (ns.map V.str)) : SpV (spOne K) [v, .ref a] H (.bl (isOne ns d)) := fun H1 e Q q E =>
  ⟨v, d, a, ns, rfl, dp_mono e h, ex_t e ha, fun H' e' => q H' e'⟩
def spL (K : PySem.W.Frag) (f : List PyData → Bool) : Sp := fun vs H Q _ => ∃ (a : Addr) (xs : List V) (ds : List PyData), vs = [.ref a] ∧ SqL K H a xs ∧ DpAll K H xs ds ∧ ∀ H', Same H H' → Q (.bl (f ds)) H'
section
variable {P : Program} {w : World} {K : PySem.W.Frag} {mg : Str → Option Value} {base : Heap}
theorem ok_is_integer (T : Txt w K mg) : Def P w K mg base CX0 1 "is_integer" ["thing"] (sp1 K fun d => .bl (isI d)) := by
  refine mkDef T.F_is_integer T.g_is_integer sc_is_integer (fun _ _ _ _ _ _ us hl => match us, hl with | [_], _ => rfl) (fun vs H Q E h => ?_) (fun cdv A outer s H vs Q E hr h => ?_)
  · obtain ⟨v, d, rfl, _⟩ := h; rfl
  · obtain ⟨v, d, rfl, hd, k⟩ := h
    refine ⟨_, (PSs.nox (pss_one (ps_ret (pe_and (pe_callB call_isi (by rfl) T.m_isinstance boot_isinstance (pa_cons (pv 0) (pa_cons (pe_bltn (v := .ty "int") rfl T.m_int boot_int rfl) pa_nil))) (pe_one (pe_not (pe_callB call_isi (by rfl) T.m_isinstance boot_isinstance (pa_cons (pv 0) (pa_cons (pe_bltn (v := .ty "bool") rfl T.m_bool boot_bool rfl) pa_nil))))))))), ?_⟩
    refine s_ret (ev_is (ev_andV (ev_cb (ea_cons (ev_var rfl) (ea_cons ev_c ea_nil)) (isi_d hd (kit_int d))) fun _ => ev_notV (ev_cb (ea_cons (ev_var rfl) (ea_cons ev_c ea_nil)) (isi_d hd (kit_bool d)))) ?_) k
    cases d <;> rfl
theorem ok_is_one_of (T : Txt w K mg) : Def P w K mg base CX0 1 "is_one_of" ["thing", "names"] (spOne K) := by
  refine mkDef T.F_is_one_of T.g_is_one_of sc_is_one_of (fun _ _ _ _ _ _ us hl => match us, hl with | [_, _], _ => rfl) (fun vs H Q E h => ?_) (fun cdv A outer s H vs Q E hr h => ?_)
  · obtain ⟨v, d, a, ns, rfl, _⟩ := h; rfl
  · obtain ⟨v, d, a, ns, rfl, hd, ha, k⟩ := h
    refine ⟨_, (PSs.nox (pss_one (ps_ret (pe_and (pe_callB call_isi (by rfl) T.m_isinstance boot_isinstance (pa_cons (pv 0) (pa_cons (pe_bltn (v := .ty "str") rfl T.m_str boot_str rfl) pa_nil))) (pe_one (pe_cmpR op_in_seq (pv 0) (pv 1) (by rfl))))))), ?_⟩
    refine s_ret (ev_is (ev_andV (b := isOne ns d) (ev_cb (ea_cons (ev_var rfl) (ea_cons ev_c ea_nil)) (isi_d hd (kit_str d))) fun hs => ?_) ?_) k
    · cases hd with
      | str s => exact ev_is (ev_op (ev_var rfl) (ev_var rfl) (rv_isT ha rfl (flat_strs ns))) (by rw [in_strs]; rfl)
      | _ => cases hs
    · cases d <;> rfl
theorem ok_is_value (T : Txt w K mg) : Def P w K mg base CX0 2 "is_value" ["thing"] (sp1 K fun d => .bl (isVal d)) := by
  have D_is_integer := ok_is_integer (P := P) (base := base) T
  refine mkDef T.F_is_value T.g_is_value sc_is_value (fun _ _ _ _ _ _ us hl => match us, hl with | [_], _ => rfl) (fun vs H Q E h => ?_) (fun cdv A outer s H vs Q E hr h => ?_)
  · obtain ⟨v, d, rfl, _⟩ := h; rfl
  · obtain ⟨v, d, rfl, hd, k⟩ := h
    refine ⟨_, (PSs.nox (pss_one (ps_ret (pe_and (pe_callD D_is_integer (hr.mono (by omega)) rfl pass0 (pa_cons (pv 0) pa_nil)) (pe_one (pe_chain op_le op_lt pe_int (pv 0) (pe_gint rfl T.c_SIZE))))))), ?_⟩
    refine s_ret (ev_is (ev_andV (b := isVal d) (ev_call (ea_cons (ev_var rfl) ea_nil) (spv1 hd)) fun hs => ?_) ?_) k
    · cases hd with
      | int i => exact ev_chain ev_c (ev_var rfl) rv_le (fun _ => ev_c) (fun _ => rv_lt)
      | _ => cases hs
    · cases d <;> rfl
theorem ok_is_term (T : Txt w K mg) : Def P w K mg base CX0 3 "is_term" ["thing"] (sp1 K fun d => .bl (isTerm d)) := by
  have D_is_value := ok_is_value (P := P) (base := base) T
  have D_is_one_of := ok_is_one_of (P := P) (base := base) T
  refine mkDef T.F_is_term T.g_is_term sc_is_term (fun _ _ _ _ _ _ us hl => match us, hl with | [_], _ => rfl) (fun vs H Q E h => ?_) (fun cdv A outer s H vs Q E hr h => ?_)
  · obtain ⟨v, d, rfl, _⟩ := h; rfl
  · obtain ⟨v, d, rfl, hd, k⟩ := h
    refine ⟨_, (PSs.nox (pss_one (ps_ret (pe_or (pe_callD D_is_value (hr.mono (by omega)) rfl pass0 (pa_cons (pv 0) pa_nil)) (pe_one (pe_callD D_is_one_of (hr.mono (by omega)) rfl pass0 (pa_cons (pv 0) (pa_cons (pe_gref rfl T.g_VARIABLES) pa_nil)))))))), ?_⟩
    exact s_ret (ev_orV (ev_call (ea_cons (ev_var rfl) ea_nil) (spv1 hd)) fun _ => ev_call (ea_cons (ev_var rfl) (ea_cons ev_c ea_nil)) (spvOne (ns := vars) hd (T.t_VARIABLES _))) k
end

end Nt

namespace Nt
open PySem PySem.Spec PyProof.Rows L2 Evl
theorem len1 {α : Type} {xs : List α} (h : xs.length = 1) : ∃ a, xs = [a] := by
  match xs, h with
  | [a], _ => exact ⟨a, rfl⟩
theorem len2 {α : Type} {xs : List α} (h : xs.length = 2) : ∃ a b, xs = [a, b] := by
  match xs, h with
  | [a, b], _ => exact ⟨a, b, rfl⟩
theorem len3 {α : Type} {xs : List α} (h : xs.length = 3) : ∃ a b c, xs = [a, b, c] := by
  match xs, h with
  | [a, b, c], _ => exact ⟨a, b, c, rfl⟩
section
variable {K : PySem.W.Frag} {H : Hp}
theorem dp1 {x : V} {ds : List PyData} (h : DpAll K H [x] ds) : ∃ d, ds = [d] ∧ Dp K H x d := by
  cases h with
  | cons h1 h => cases h; exact ⟨_, rfl, h1⟩
theorem dp2 {x y : V} {ds : List PyData} (h : DpAll K H [x, y] ds) : ∃ d e, ds = [d, e] ∧ Dp K H x d ∧ Dp K H y e := by
  cases h with
  | cons h1 h =>
    obtain ⟨e, rfl, h2⟩ := dp1 h
    exact ⟨_, _, rfl, h1, h2⟩
theorem dp3 {x y z : V} {ds : List PyData} (h : DpAll K H [x, y, z] ds) : ∃ d e f, ds = [d, e, f] ∧ Dp K H x d ∧ Dp K H y e ∧ Dp K H z f := by
  cases h with
  | cons h1 h =>
    obtain ⟨e, f, rfl, h2, h3⟩ := dp2 h
    exact ⟨_, _, _, rfl, h1, h2, h3⟩
theorem dp_tupI {v : V} {d : PyData} (h : Dp K H v d) (ht : isTup d = true) : ∃ a xs ds, v = .ref a ∧ d = .tuple ds ∧ SqT K H a xs ∧ DpAll K H xs ds := by
  cases h with
  | tup h1 h2 => exact ⟨_, _, _, rfl, rfl, h1, h2⟩
  | _ => cases ht
theorem dp_strI {v : V} {d : PyData} (h : Dp K H v d) (ht : isStr d = true) : ∃ s, v = .str s ∧ d = .str s := by
  cases h with
  | str s => exact ⟨s, rfl, rfl⟩
  | _ => cases ht
end
theorem isCond_not {d : PyData} (h : isTup d = false) : isCond d = false := by
  cases d <;> first | rfl | cases h
theorem isCond_len {ds : List PyData} (h : ¬ ds.length = 3) : isCond (.tuple ds) = false := by
  match ds, h with
  | [], _ => rfl
  | [_], _ => rfl
  | [_, _], _ => rfl
  | [_, _, _], h => exact absurd rfl h
  | _ :: _ :: _ :: _ :: _, _ => rfl
theorem pSet_len {ds : List PyData} (h : ¬ ds.length = 2) : pSet ds = false := by
  match ds, h with
  | [], _ => rfl
  | [_], _ => rfl
  | [_, _], h => exact absurd rfl h
  | _ :: _ :: _ :: _, _ => rfl
theorem pAdd_len {ds : List PyData} (h : ¬ ds.length = 2) : pAdd ds = false := by
  match ds, h with
  | [], _ => rfl
  | [_], _ => rfl
  | [_, _], h => exact absurd rfl h
  | _ :: _ :: _ :: _, _ => rfl
theorem pAsk_len {ds : List PyData} (h : ¬ ds.length = 3) : pAsk ds = false := by
  match ds, h with
  | [], _ => rfl
  | [_], _ => rfl
  | [_, _], _ => rfl
  | [_, _, _], h => exact absurd rfl h
  | _ :: _ :: _ :: _ :: _, _ => rfl
theorem pWait_len {ds : List PyData} (h : ¬ ds.length = 1) : pWait ds = false := by
  match ds, h with
  | [], _ => rfl
  | [_], h => exact absurd rfl h
  | x :: _ :: _, _ => cases x <;> rfl
theorem pAns_len {ds : List PyData} (h : ¬ ds.length = 1) : pAns ds = false := by
  match ds, h with
  | [], _ => rfl
  | [_], h => exact absurd rfl h
  | x :: _ :: _, _ => cases x <;> rfl
theorem pTerm_len {ds : List PyData} (h : ¬ ds.length = 1) : pTerm ds = false := by
  match ds, h with
  | [], _ => rfl
  | [_], h => exact absurd rfl h
  | _ :: _ :: _, _ => rfl
theorem at0 {x : V} {xs : List V} : atI (x :: xs) 0 = some x := atI_nat (j := 0) rfl
theorem at1 {x y : V} {xs : List V} : atI (x :: y :: xs) 1 = some y := atI_nat (j := 1) rfl
theorem at2 {x y z : V} {xs : List V} : atI (x :: y :: z :: xs) 2 = some z := atI_nat (j := 2) rfl
theorem int_eq (n m : Nat) : (decide (V.int (n : Int) = V.int (m : Int))) = decide (n = m) := by
  by_cases h : n = m
  · subst h; simp
  · rw [decide_eq_false h, decide_eq_false]
    intro q; injection q with q; omega
theorem int_ne (n m : Nat) : (!decide (V.int (n : Int) = V.int (m : Int))) = !decide (n = m) := by rw [int_eq]
theorem and_len {f : List PyData → Bool} {ds : List PyData} {n : Nat} (h : ¬ ds.length = n → f ds = false) : V.bl (decide (ds.length = n) && f ds) = .bl (f ds) := by
  by_cases hn : ds.length = n
  · rw [decide_eq_true hn]; rfl
  · rw [h hn, Bool.and_false]
section
variable {K : PySem.W.Frag} {H : Hp} {σ : L2.St} {a : Addr} {xs : List V} {ds : List PyData} {t : TE}
/-- len(parts) == n and .. -/
theorem ev_lenAnd {n : Nat} {f : List PyData → Bool} {i : Nat} (h0 : σ[i]? = some (some (.ref a))) (hx : SqL K H a xs) (ha : DpAll K H xs ds) (hf : ¬ ds.length = n → f ds = false) (h : ds.length = n → Ev t σ H (.bl (f ds))) :
    Ev (tAndV (tOp rEq (tCB (rLenS K) (tCons (tVar i) tNil)) (tC (.int (n : Nat)))) t) σ H (.bl (f ds)) := by
  have hn := dpAll_len ha
  refine ev_is (ev_andV (a := decide (ds.length = n)) (b := f ds) (ev_is (ev_op (ev_cb (ea_cons (ev_var h0) ea_nil) (rc_lenL hx)) ev_c (rv_eq rfl)) (by rw [int_eq, hn])) fun hs => h (of_decide_eq_true hs)) (and_len hf)
end

end Nt

namespace Nt
open PySem PySem.Spec PyProof.Rows L2 Evl
section
variable {P : Program} {w : World} {K : PySem.W.Frag} {mg : Str → Option Value} {base : Heap}
theorem ok_is_condition (T : Txt w K mg) : Def P w K mg base CX0 4 "is_condition" ["thing"] (sp1 K fun d => .bl (isCond d)) := by
  have D_is_term := ok_is_term (P := P) (base := base) T
  have D_is_one_of := ok_is_one_of (P := P) (base := base) T
  refine mkDef T.F_is_condition T.g_is_condition sc_is_condition (fun _ _ _ _ _ _ us hl => match us, hl with | [_], _ => rfl) (fun vs H Q E h => ?_) (fun cdv A outer s H vs Q E hr h => ?_)
  · obtain ⟨v, d, rfl, _⟩ := h; rfl
  · obtain ⟨v, d, rfl, hd, k⟩ := h
    have k : ∀ H', Same H H' → Q (.bl (isCond d)) H' := k
    refine ⟨_, (PSs.nox (pss_cons (ps_if (PW.pt (pw_or (pt_not (pt_val (pe_callB call_isi (by rfl) T.m_isinstance boot_isinstance (pa_cons (pv 0) (pa_cons (pe_bltn (v := .ty "tuple") rfl T.m_tuple boot_tuple rfl) pa_nil))))) (pw_or1 (pt_cmpR op_ne (pe_callB call_len_seq (by rfl) T.m_len boot_len (pa_cons (pv 0) pa_nil)) pe_int (nomark _))))) (pss_one (ps_ret pe_bl)) pss_nil)
      (pss_cons (ps_asg (pv 0) (pg_tup (n := 3) rfl (pgs_cons (pg_name (i := 1) sc_is_condition.nd rfl (Or.inl rfl)) (pgs_cons (pg_name (i := 2) sc_is_condition.nd rfl (Or.inl rfl)) (pgs_cons (pg_name (i := 3) sc_is_condition.nd rfl (Or.inl rfl)) pgs_nil)))))
      (pss_one (ps_ret (pe_and (pe_callD D_is_one_of (hr.mono (by omega)) rfl pass0 (pa_cons (pv 1) (pa_cons (pe_gref rfl T.g_VARIABLES) pa_nil))) (pe_and (pe_callD D_is_one_of (hr.mono (by omega)) rfl pass0 (pa_cons (pv 2) (pa_cons (pe_gref rfl T.g_COMPARISONS) pa_nil))) (pe_one (pe_callD D_is_term (hr.mono (by omega)) rfl pass0 (pa_cons (pv 3) pa_nil)))))))))), ?_⟩
    cases ht : isTup d with
    | false =>
      refine q_when (b := true) (et_or (b := true) (et_not (et_B (ev_cb (ea_cons (ev_var rfl) (ea_cons ev_c ea_nil)) (isi_d hd ((kit_tup d).trans (congrArg some ht)))))) fun q => by cases q) (fun _ H1 e => s_ret ev_c fun H2 e2 => ?_) fun q => by cases q
      have := k H2 (e.trans e2)
      rw [isCond_not ht] at this
      exact this
    | true =>
      obtain ⟨a, xs, ds, rfl, rfl, hx, ha⟩ := dp_tupI hd ht
      have hn := dpAll_len ha
      refine q_when (et_or (b := !decide (xs.length = 3)) (et_not (et_B (ev_cb (ea_cons (ev_var rfl) (ea_cons ev_c ea_nil)) (isi_d hd (kit_tup _))))) fun _ => et_is (et_test (ev_op (ev_cb (ea_cons (ev_var rfl) ea_nil) (rc_lenT hx)) ev_c (rv_ne rfl))) (int_ne xs.length 3)) ?_ ?_
      · intro hb H1 e
        have h3 : ¬ ds.length = 3 := fun q => by rw [← hn] at q; rw [q] at hb; cases hb
        refine s_ret ev_c fun H2 e2 => ?_
        have := k H2 (e.trans e2)
        rw [isCond_len h3] at this
        exact this
      · intro hb H1 e
        have h3 : xs.length = 3 := by
          by_cases q : xs.length = 3
          · exact q
          · rw [decide_eq_false q] at hb; cases hb
        obtain ⟨x, y, z, rfl⟩ := len3 h3
        obtain ⟨dx, dy, dz, rfl, hx1, hx2, hx3⟩ := dp3 ha
        refine ⟨_, rfl, a, _, rfl, ex_t e hx, rfl, _, _, rfl, _, _, rfl, _, _, rfl, rfl, ?_⟩
        exact s_ret (ev_andV (ev_call (ea_cons (ev_var rfl) (ea_cons ev_c ea_nil)) (spvOne (ns := vars) (dp_mono e hx1) (T.t_VARIABLES _))) fun _ =>
            ev_andV (ev_call (ea_cons (ev_var rfl) (ea_cons ev_c ea_nil)) (spvOne (ns := comps) (dp_mono e hx2) (T.t_COMPARISONS _))) fun _ => ev_call (ea_cons (ev_var rfl) ea_nil) (spv1 (dp_mono e hx3))) fun H2 e2 => k H2 (e.trans e2)
theorem ok_is_set (T : Txt w K mg) : Def P w K mg base CX0 3 "is_set" ["parts"] (spL K pSet) := by
  have D_is_value := ok_is_value (P := P) (base := base) T
  have D_is_one_of := ok_is_one_of (P := P) (base := base) T
  refine mkDef T.F_is_set T.g_is_set sc_is_set (fun _ _ _ _ _ _ us hl => match us, hl with | [_], _ => rfl) (fun vs H Q E h => ?_) (fun cdv A outer s H vs Q E hr h => ?_)
  · obtain ⟨a, xs, ds, rfl, _⟩ := h; rfl
  · obtain ⟨a, xs, ds, rfl, hx, ha, k⟩ := h
    refine ⟨_, (PSs.nox (pss_one (ps_ret (pe_and (pe_cmpR op_eq (pe_callB call_len_seq (by rfl) T.m_len boot_len (pa_cons (pv 0) pa_nil)) pe_int (nomark _)) (pe_and (pe_callD D_is_one_of (hr.mono (by omega)) rfl pass0 (pa_cons (pe_ix ix_list (pv 0) pe_int (fun _ _ => rfl)) (pa_cons (pe_gref rfl T.g_VARIABLES) pa_nil))) (pe_one (pe_callD D_is_value (hr.mono (by omega)) rfl pass0 (pa_cons (pe_ix ix_list (pv 0) pe_int (fun _ _ => rfl)) pa_nil)))))))), ?_⟩
    refine s_ret (ev_lenAnd rfl hx ha pSet_len fun hn => ?_) k
    obtain ⟨x, y, rfl⟩ := len2 ((dpAll_len ha).trans hn)
    obtain ⟨dx, dy, rfl, h1, h2⟩ := dp2 ha
    exact ev_andV (ev_call (ea_cons (ev_op (ev_var rfl) ev_c (rv_ixL hx at0)) (ea_cons ev_c ea_nil)) (spvOne (ns := vars) h1 (T.t_VARIABLES _))) fun _ => ev_call (ea_cons (ev_op (ev_var rfl) ev_c (rv_ixL hx at1)) ea_nil) (spv1 h2)
theorem ok_is_add (T : Txt w K mg) : Def P w K mg base CX0 4 "is_add" ["parts"] (spL K pAdd) := by
  have D_is_term := ok_is_term (P := P) (base := base) T
  have D_is_one_of := ok_is_one_of (P := P) (base := base) T
  refine mkDef T.F_is_add T.g_is_add sc_is_add (fun _ _ _ _ _ _ us hl => match us, hl with | [_], _ => rfl) (fun vs H Q E h => ?_) (fun cdv A outer s H vs Q E hr h => ?_)
  · obtain ⟨a, xs, ds, rfl, _⟩ := h; rfl
  · obtain ⟨a, xs, ds, rfl, hx, ha, k⟩ := h
    refine ⟨_, (PSs.nox (pss_one (ps_ret (pe_and (pe_cmpR op_eq (pe_callB call_len_seq (by rfl) T.m_len boot_len (pa_cons (pv 0) pa_nil)) pe_int (nomark _)) (pe_and (pe_callD D_is_one_of (hr.mono (by omega)) rfl pass0 (pa_cons (pe_ix ix_list (pv 0) pe_int (fun _ _ => rfl)) (pa_cons (pe_gref rfl T.g_VARIABLES) pa_nil))) (pe_one (pe_callD D_is_term (hr.mono (by omega)) rfl pass0 (pa_cons (pe_ix ix_list (pv 0) pe_int (fun _ _ => rfl)) pa_nil)))))))), ?_⟩
    refine s_ret (ev_lenAnd rfl hx ha pAdd_len fun hn => ?_) k
    obtain ⟨x, y, rfl⟩ := len2 ((dpAll_len ha).trans hn)
    obtain ⟨dx, dy, rfl, h1, h2⟩ := dp2 ha
    exact ev_andV (ev_call (ea_cons (ev_op (ev_var rfl) ev_c (rv_ixL hx at0)) (ea_cons ev_c ea_nil)) (spvOne (ns := vars) h1 (T.t_VARIABLES _))) fun _ => ev_call (ea_cons (ev_op (ev_var rfl) ev_c (rv_ixL hx at1)) ea_nil) (spv1 h2)
theorem ok_is_wait (T : Txt w K mg) : Def P w K mg base CX0 2 "is_wait" ["parts"] (spL K pWait) := by
  have D_is_integer := ok_is_integer (P := P) (base := base) T
  refine mkDef T.F_is_wait T.g_is_wait sc_is_wait (fun _ _ _ _ _ _ us hl => match us, hl with | [_], _ => rfl) (fun vs H Q E h => ?_) (fun cdv A outer s H vs Q E hr h => ?_)
  · obtain ⟨a, xs, ds, rfl, _⟩ := h; rfl
  · obtain ⟨a, xs, ds, rfl, hx, ha, k⟩ := h
    refine ⟨_, (PSs.nox (pss_one (ps_ret (pe_and (pe_cmpR op_eq (pe_callB call_len_seq (by rfl) T.m_len boot_len (pa_cons (pv 0) pa_nil)) pe_int (nomark _)) (pe_and (pe_callD D_is_integer (hr.mono (by omega)) rfl pass0 (pa_cons (pe_ix ix_list (pv 0) pe_int (fun _ _ => rfl)) pa_nil)) (pe_one (pe_chain op_le op_le pe_int (pe_ix ix_list (pv 0) pe_int (fun _ _ => rfl)) (pe_gint rfl T.c_LONGEST_WAIT)))))))), ?_⟩
    refine s_ret (ev_lenAnd rfl hx ha pWait_len fun hn => ?_) k
    obtain ⟨x, rfl⟩ := len1 ((dpAll_len ha).trans hn)
    obtain ⟨dx, rfl, h1⟩ := dp1 ha
    refine ev_is (ev_andV (b := pWait [dx]) (ev_call (ea_cons (ev_op (ev_var rfl) ev_c (rv_ixL hx at0)) ea_nil) (spv1 h1)) fun hs => ?_) ?_
    · cases h1 with
      | int i => exact ev_chain ev_c (ev_op (ev_var rfl) ev_c (rv_ixL hx at0)) rv_le (fun _ => ev_c) (fun _ => rv_le)
      | _ => cases hs
    · cases dx <;> rfl
theorem ok_is_answer (T : Txt w K mg) : Def P w K mg base CX0 2 "is_answer" ["parts"] (spL K pAns) := by
  have D_is_integer := ok_is_integer (P := P) (base := base) T
  refine mkDef T.F_is_answer T.g_is_answer sc_is_answer (fun _ _ _ _ _ _ us hl => match us, hl with | [_], _ => rfl) (fun vs H Q E h => ?_) (fun cdv A outer s H vs Q E hr h => ?_)
  · obtain ⟨a, xs, ds, rfl, _⟩ := h; rfl
  · obtain ⟨a, xs, ds, rfl, hx, ha, k⟩ := h
    refine ⟨_, (PSs.nox (pss_one (ps_ret (pe_and (pe_cmpR op_eq (pe_callB call_len_seq (by rfl) T.m_len boot_len (pa_cons (pv 0) pa_nil)) pe_int (nomark _)) (pe_and (pe_callD D_is_integer (hr.mono (by omega)) rfl pass0 (pa_cons (pe_ix ix_list (pv 0) pe_int (fun _ _ => rfl)) pa_nil)) (pe_one (pe_chain op_le op_le pe_int (pe_ix ix_list (pv 0) pe_int (fun _ _ => rfl)) pe_int))))))), ?_⟩
    refine s_ret (ev_lenAnd rfl hx ha pAns_len fun hn => ?_) k
    obtain ⟨x, rfl⟩ := len1 ((dpAll_len ha).trans hn)
    obtain ⟨dx, rfl, h1⟩ := dp1 ha
    refine ev_is (ev_andV (b := pAns [dx]) (ev_call (ea_cons (ev_op (ev_var rfl) ev_c (rv_ixL hx at0)) ea_nil) (spv1 h1)) fun hs => ?_) ?_
    · cases h1 with
      | int i => exact ev_chain ev_c (ev_op (ev_var rfl) ev_c (rv_ixL hx at0)) rv_le (fun _ => ev_c) (fun _ => rv_le)
      | _ => cases hs
    · cases dx <;> rfl
theorem ok_is_one_term (T : Txt w K mg) : Def P w K mg base CX0 4 "is_one_term" ["parts"] (spL K pTerm) := by
  have D_is_term := ok_is_term (P := P) (base := base) T
  refine mkDef T.F_is_one_term T.g_is_one_term sc_is_one_term (fun _ _ _ _ _ _ us hl => match us, hl with | [_], _ => rfl) (fun vs H Q E h => ?_) (fun cdv A outer s H vs Q E hr h => ?_)
  · obtain ⟨a, xs, ds, rfl, _⟩ := h; rfl
  · obtain ⟨a, xs, ds, rfl, hx, ha, k⟩ := h
    refine ⟨_, (PSs.nox (pss_one (ps_ret (pe_and (pe_cmpR op_eq (pe_callB call_len_seq (by rfl) T.m_len boot_len (pa_cons (pv 0) pa_nil)) pe_int (nomark _)) (pe_one (pe_callD D_is_term (hr.mono (by omega)) rfl pass0 (pa_cons (pe_ix ix_list (pv 0) pe_int (fun _ _ => rfl)) pa_nil))))))), ?_⟩
    refine s_ret (ev_lenAnd rfl hx ha pTerm_len fun hn => ?_) k
    obtain ⟨x, rfl⟩ := len1 ((dpAll_len ha).trans hn)
    obtain ⟨dx, rfl, h1⟩ := dp1 ha
    exact ev_call (ea_cons (ev_op (ev_var rfl) ev_c (rv_ixL hx at0)) ea_nil) (spv1 h1)
theorem ok_is_ask (T : Txt w K mg) : Def P w K mg base CX0 4 "is_ask" ["parts"] (spL K pAsk) := by
  have D_is_term := ok_is_term (P := P) (base := base) T
  have D_is_one_of := ok_is_one_of (P := P) (base := base) T
  refine mkDef T.F_is_ask T.g_is_ask sc_is_ask (fun _ _ _ _ _ _ us hl => match us, hl with | [_], _ => rfl) (fun vs H Q E h => ?_) (fun cdv A outer s H vs Q E hr h => ?_)
  · obtain ⟨a, xs, ds, rfl, _⟩ := h; rfl
  · obtain ⟨a, xs, ds, rfl, hx, ha, k⟩ := h
    have hl := dpAll_len ha
    refine ⟨_, (PSs.nox (pss_cons (ps_if (pt_cmpR op_ne (pe_callB call_len_seq (by rfl) T.m_len boot_len (pa_cons (pv 0) pa_nil)) pe_int (nomark _)) (pss_one (ps_ret pe_bl)) pss_nil)
      (pss_one (ps_ret (pe_and (pe_callD D_is_one_of (hr.mono (by omega)) rfl pass0 (pa_cons (pe_ix ix_list (pv 0) pe_int (fun _ _ => rfl)) (pa_cons (pe_gref rfl T.g_DIRECTIONS) pa_nil))) (pe_and (pe_callD D_is_term (hr.mono (by omega)) rfl pass0 (pa_cons (pe_ix ix_list (pv 0) pe_int (fun _ _ => rfl)) pa_nil)) (pe_one (pe_callD D_is_one_of (hr.mono (by omega)) rfl pass0 (pa_cons (pe_ix ix_list (pv 0) pe_int (fun _ _ => rfl)) (pa_cons (pe_gref rfl T.g_VARIABLES) pa_nil)))))))))), ?_⟩
    refine q_when (et_is (et_test (ev_op (ev_cb (ea_cons (ev_var rfl) ea_nil) (rc_lenL hx)) ev_c (rv_ne rfl))) (int_ne xs.length 3)) ?_ ?_
    · intro hb H1 e
      have h3 : ¬ ds.length = 3 := fun q => by rw [← hl] at q; rw [q] at hb; cases hb
      refine s_ret ev_c fun H2 e2 => ?_
      have := k H2 (e.trans e2)
      rw [pAsk_len h3] at this
      exact this
    · intro hb H1 e
      have h3 : xs.length = 3 := by
        by_cases q : xs.length = 3
        · exact q
        · rw [decide_eq_false q] at hb; cases hb
      obtain ⟨x, y, z, rfl⟩ := len3 h3
      obtain ⟨dx, dy, dz, rfl, h1, h2, h3⟩ := dp3 ha
      have hx := ex_l e hx
      exact s_ret (ev_andV (ev_call (ea_cons (ev_op (ev_var rfl) ev_c (rv_ixL hx at0)) (ea_cons ev_c ea_nil)) (spvOne (ns := dirs) (dp_mono e h1) (T.t_DIRECTIONS _))) fun _ =>
        ev_andV (ev_call (ea_cons (ev_op (ev_var rfl) ev_c (rv_ixL hx at1)) ea_nil) (spv1 (dp_mono e h2))) fun _ => ev_call (ea_cons (ev_op (ev_var rfl) ev_c (rv_ixL hx at2)) (ea_cons ev_c ea_nil)) (spvOne (ns := vars) (dp_mono e h3) (T.t_VARIABLES _))) fun H2 e2 => k H2 (e.trans e2)
end

end Nt

namespace Nt
open PySem PySem.Spec PyProof.Rows L2 Evl
/-! ### a call of a def that a slot holds -/
def tCallH (A : Addr → Sp → Prop) (i : Nat) (t : TA) : TE := fun σ H Q => ∃ f sp, σ[i]? = some (some (.ref f)) ∧ A f sp ∧ t σ H fun vs H1 => sp vs H1 Q E0
theorem pe_callH {X : Cx} {k i : Nat} {x : Str} {p pos : Pos} {e : Expr} {es : List Expr} {t : TA} {A : Addr → Sp → Prop} (hA : ∀ f sp, A f sp → Held X.prog X.w X.K X.mg X.base k f sp) (hr : Room k X.A) (hN : X.N[i]? = some x) (hv : Vis X.env.scope x) (ha : PA X (e :: es) t)
    (hdb : (x == ("__debug__" : Str)) = false := by decide) (hcd : (x == ("__classdict__" : Str)) = false := by decide)
    (he : starEach (e :: es) X.env = (false, eval e X.env) :: starEach es X.env := by rfl) (hpl : (backTo pos (starEach es X.env)).any (·.1) = false := by rfl) : PE X (.Call (.Name x p) (e :: es) [] pos) (tCallH A i t) := by
  refine ⟨fun pins s σ H Q I h => ?_⟩
  obtain ⟨f, sp, hs, hS, ht⟩ := h
  obtain ⟨fd, ps, F, hk, hb⟩ := (hA f sp hS).ex
  refine (pe_callL (i := i) (f := f) (sp := sp) (dvs := []) (E := fun _ _ _ => False) F hr hN hv hk hb .nil (fun _ _ _ _ _ _ _ z => z.elim) ha hdb hcd he hpl).run pins s σ H Q I ⟨hs, ?_⟩
  have e0 : (fun (vs : List V) (H1 : Hp) => sp (vs ++ []) H1 Q (fun _ _ _ => False)) = fun vs H1 => sp vs H1 Q (fun _ _ _ => False) := by
    funext vs H1
    rw [List.append_nil]
  show t σ H (fun vs H1 => sp (vs ++ []) H1 Q (fun _ _ _ => False))
  rw [e0]
  exact ht
theorem Def.held {P : Program} {w : World} {K : PySem.W.Frag} {mg : Str → Option Value} {base : Heap} {k : Nat} {x : Str} {ps : List Str} {sp : Sp} {f : Addr} (D : Def P w K mg base CX0 k x ps sp) (g : mg x = some (.ref f)) : Held P w K mg base k f sp := by
  obtain ⟨f', fd, h1, h2, h3, h4⟩ := D.ex
  have e : f = f' := by
    have := g.symm.trans h1
    injection this with this
    injection this
  subst e
  exact ⟨fd, ps, h4, h2, h3⟩
theorem ev_callH {A : Addr → Sp → Prop} {i : Nat} {t : TA} {σ : L2.St} {H : Hp} {f : Addr} {sp : Sp} {vs : List V} {z : V} (h0 : σ[i]? = some (some (.ref f))) (hA : A f sp) (ha : EvA t σ H vs) (hs : SpV sp vs H z) : Ev (tCallH A i t) σ H z := fun H1 e Q q =>
  ⟨f, sp, h0, hA, ha H1 e _ fun H2 e2 => hs H2 (e.trans e2) _ (fun H3 e3 => q H3 (e2.trans e3)) E0⟩
/-! ### sizes -/
inductive Sm : PyData → Prop
  | none : Sm .none
  | bool (b : Bool) : Sm (.bool b)
  | int (i : Int) : Sm (.int i)
  | str (s : Str) : Sm (.str s)
  | list {xs : List PyData} (h : xs.length ≤ 20000) (a : ∀ x, x ∈ xs → Sm x) : Sm (.list xs)
  | tuple {xs : List PyData} (h : xs.length ≤ 20000) (a : ∀ x, x ∈ xs → Sm x) : Sm (.tuple xs)
theorem Sm.tupI {xs : List PyData} (h : Sm (.tuple xs)) : xs.length ≤ 20000 ∧ ∀ x, x ∈ xs → Sm x := by
  cases h with
  | tuple h a => exact ⟨h, a⟩
/-! ### the counts -/
def sumO (l : List (Option Int)) : Option Int := if l.any Option.isNone then none else some (l.map (·.getD 0)).sum
def wordsT : List Str := ["set", "add", "wait", "ask", "answer"]
def wordsC : List Str := ["set", "add", "wait", "grow", "list"]
def words (kind : Str) : List Str := if kind = "teller" then wordsT else wordsC
def chk (z : Str) : List PyData → Bool := if z = "set" then pSet else if z = "add" then pAdd else if z = "wait" then pWait else if z = "ask" then pAsk else if z = "answer" then pAns else pTerm
def nBod (z : Str) : Nat := if z = "if" then 2 else 1
def isBlk (z : Str) : Bool := z == "if" || z == "while"
def cntBlock (cb : PyData → Option Int) (z : Str) (parts : List PyData) : Option Int :=
  if (parts.drop 1).length = nBod z ∧ isCond (parts.getD 0 .none) = true then (sumO ((parts.drop 1).map cb)).map (1 + ·) else none
def cntStmt (kind : Str) (cb : PyData → Option Int) : PyData → Option Int
  | .tuple (.str z :: parts) => if isBlk z then cntBlock cb z parts else if (words kind).contains z && chk z parts then some 1 else none
  | _ => none
def cntBody (kind : Str) : Nat → PyData → Option Int
  | 0, .tuple [] => some 0
  | f + 1, .tuple ss => sumO (ss.map (cntStmt kind (cntBody kind f)))
  | _, _ => none
def cV : Option Int → V
  | none => .non
  | some n => .int n
theorem cV_flat (os : List (Option Int)) : (os.map cV).all flatV = true := by
  rw [List.all_map]
  refine List.all_eq_true.mpr fun o _ => ?_
  cases o <;> rfl
theorem cV_none (os : List (Option Int)) : inV .non (os.map cV) = os.any Option.isNone := by
  unfold inV
  rw [List.any_map]
  congr 1
  funext o
  cases o <;> rfl
theorem cV_some {os : List (Option Int)} (h : os.any Option.isNone = false) : os.map cV = (os.map (·.getD 0)).map V.int := by
  induction os with
  | nil => rfl
  | cons o os ih =>
    rw [List.any_cons, Bool.or_eq_false_iff] at h
    cases o with
    | none => cases h.1
    | some n => rw [List.map_cons, List.map_cons, List.map_cons, ih h.2]; rfl
def okKind (kind : Str) : Prop := kind = "teller" ∨ kind = "collector"
def spStm (K : PySem.W.Frag) (f : Nat) : Sp := fun vs H Q _ => ∃ (kind : Str) (v : V) (d : PyData), okKind kind ∧ vs = [.str kind, v, .int (4 - (f : Int))] ∧ Dp K H v d ∧ Sm d ∧ ∀ H', Same H H' → Q (cV (cntStmt kind (cntBody kind f) d)) H'
def spBod (K : PySem.W.Frag) (f : Nat) : Sp := fun vs H Q _ => ∃ (kind : Str) (v : V) (d : PyData), okKind kind ∧ vs = [.str kind, v, .int (5 - (f : Int))] ∧ Dp K H v d ∧ Sm d ∧ ∀ H', Same H H' → Q (cV (cntBody kind f d)) H'
def spBlk (K : PySem.W.Frag) (f : Nat) : Sp := fun vs H Q _ => ∃ (kind z : Str) (a : Addr) (xs : List V) (ds : List PyData), okKind kind ∧ isBlk z = true ∧ vs = [.str kind, .str z, .ref a, .int (4 - (f : Int))] ∧ SqL K H a xs ∧ DpAll K H xs ds ∧ ds.length ≤ 20000 ∧ (∀ d, d ∈ ds → Sm d) ∧ ∀ H', Same H H' → Q (cV (cntBlock (cntBody kind f) z ds)) H'
theorem spvStm {K : PySem.W.Frag} {f : Nat} {kind : Str} {v : V} {d : PyData} {H : Hp} (hk : okKind kind) (h : Dp K H v d) (hs : Sm d) : SpV (spStm K f) [.str kind, v, .int (4 - (f : Int))] H (cV (cntStmt kind (cntBody kind f) d)) := fun H1 e Q q E => ⟨kind, v, d, hk, rfl, dp_mono e h, hs, fun H' e' => q H' e'⟩
theorem spvBod {K : PySem.W.Frag} {f : Nat} {kind : Str} {v : V} {d : PyData} {H : Hp} (hk : okKind kind) (h : Dp K H v d) (hs : Sm d) : SpV (spBod K f) [.str kind, v, .int (5 - (f : Int))] H (cV (cntBody kind f d)) := fun H1 e Q q E => ⟨kind, v, d, hk, rfl, dp_mono e h, hs, fun H' e' => q H' e'⟩
theorem spvBlk {K : PySem.W.Frag} {f : Nat} {kind z : Str} {a : Addr} {xs : List V} {ds : List PyData} {H : Hp} (hk : okKind kind) (hz : isBlk z = true) (hx : SqL K H a xs) (h : DpAll K H xs ds) (hl : ds.length ≤ 20000) (hs : ∀ d, d ∈ ds → Sm d) :
    SpV (spBlk K f) [.str kind, .str z, .ref a, .int (4 - (f : Int))] H (cV (cntBlock (cntBody kind f) z ds)) := fun H1 e Q q E => ⟨kind, z, a, xs, ds, hk, hz, rfl, ex_l e hx, dpAll_mono e h, hl, hs, fun H' e' => q H' e'⟩
def bodTab : List (Str × V) := [("if", .int 2), ("while", .int 1)]
theorem bod_at {z : Str} (h : isBlk z = true) : bodTab.lookup z = some (.int (nBod z : Nat)) := by
  unfold isBlk at h
  rcases Bool.or_eq_true_iff.mp h with q | q
  · rw [eq_of_beq q]; decide +kernel
  · rw [eq_of_beq q]; decide +kernel
theorem bod_is (z : Str) : (bodTab.lookup z).isSome = isBlk z := by
  unfold bodTab isBlk
  rw [List.lookup_cons, List.lookup_cons, List.lookup_nil]
  cases (z == "if") <;> cases (z == "while") <;> rfl
/-- None if None in counts else .. -/
theorem ev_counts {K : PySem.W.Frag} {σ : L2.St} {H : Hp} {i : Nat} {p : Addr} {os : List (Option Int)} {te : TE} {g : Int → Int} (h0 : σ[i]? = some (some (.ref p))) (hp : SqL K H p (os.map cV))
    (h : os.any Option.isNone = false → Ev te σ H (.int (g (os.map (·.getD 0)).sum))) : Ev (tIf (tTest (tOp (rIn K false) (tC .non) (tVar i))) (tC .non) te) σ H (cV ((sumO os).map g)) := by
  refine ev_if (b := os.any Option.isNone) (et_is (et_test (ev_op ev_c (ev_var h0) (rv_isL hp rfl (cV_flat os)))) (cV_none os)) (fun hb => ev_is ev_c ?_) (fun hb => ev_is (h hb) ?_)
  · unfold sumO; rw [if_pos hb]; rfl
  · unfold sumO; rw [if_neg (by rw [hb]; exact Bool.false_ne_true)]; rfl

end Nt

namespace Nt
open PySem PySem.Spec PyProof.Rows L2 Evl
theorem cut1 (xs : List V) : cutV xs (some 1) none = xs.drop 1 := by
  unfold cutV
  have h1 : HT.sIx xs.length 0 (some 1) = min 1 xs.length := HT.sIx_nat xs.length 0 1
  rw [h1, HT.sIx_none]
  cases xs with
  | nil => rfl
  | cons x xs =>
    have h2 : min 1 (x :: xs).length = 1 := by rw [List.length_cons]; omega
    rw [h2, List.take_of_length_le]
    rw [List.length_drop]; omega
section
variable {P : Program} {w : World} {K : PySem.W.Frag} {mg : Str → Option Value} {base : Heap}
theorem ok_count_block (T : Txt w K mg) (f k : Nat) (hk4 : 4 ≤ k) (D_count_body : Def P w K mg base CX0 k "count_body" ["kind", "thing", "depth"] (spBod K f)) : Def P w K mg base CX0 (k + 1) "count_block" ["kind", "word", "parts", "depth"] (spBlk K f) := by
  have D_is_condition := (ok_is_condition (P := P) (base := base) T)
  refine mkDef T.F_count_block T.g_count_block sc_count_block (fun _ _ _ _ _ _ us hl => match us, hl with | [_, _, _, _], _ => rfl) (fun vs H Q E h => ?_) (fun cdv A outer s H vs Q E hr h => ?_)
  · obtain ⟨_, _, _, _, _, _, _, rfl, _⟩ := h; rfl
  · obtain ⟨kind, z, a, xs, ds, hkd, hz, rfl, hx, ha, hl, hs, kk⟩ := h
    have hn := dpAll_len ha
    refine ⟨_, (PSs.nox (pss_cons (ps_set (i := 4) sc_count_block.nd rfl (Or.inl rfl) (pe_slice sl_list (pv 2) (po_some pe_int) po_none))
      (pss_cons (ps_if (PW.pt (pw_or (pt_cmpR op_ne (pe_callB call_len_seq (by rfl) T.m_len boot_len (pa_cons (pv 4) pa_nil)) (pe_ix (ix_tab T.d_BODIES) (pe_gref rfl T.g_BODIES) (pv 1) (fun _ _ => rfl)) (nomark _)) (pw_or1 (pt_not (pt_val (pe_callD D_is_condition (hr.mono (by omega)) rfl pass0 (pa_cons (pe_ix ix_list (pv 2) pe_int (fun _ _ => rfl)) pa_nil))))))) (pss_one (ps_ret pe_non)) pss_nil)
      (pss_cons (ps_setLc (i := 5) (own := [("body", 6)]) (by rfl) sc_count_block.nd rfl rfl (sw_true rfl rfl rfl (by decide +kernel)) (pi_list (pv 4)) (blkOk_by (own := [("body", 6)]) (N := N_count_block) (sc := defScope s_count_block) (by decide +kernel)) (fun _ _ _ _ _ => (pg_name (i := 6) sc_count_block.nd rfl (Or.inl rfl))) (fun _ _ _ _ _ => pts_nil) (fun _ _ _ _ _ => (pe_callD D_count_body (hr.mono (by omega)) rfl pass0 (pa_cons (pv 0) (pa_cons (pv 6) (pa_cons (pe_op op_add (pv 3) pe_int) pa_nil))))))
      (pss_one (ps_ret (pe_ifExp (pt_cmpR op_in_seq pe_non (pv 5) (by rfl)) pe_non (pe_op op_add pe_int (pe_callB (cr_sum rfl) (by rfl) T.m_sum boot_sum (pa_cons (pv 5) pa_nil)))))))))), ?_⟩
    refine q_asgL (el_sl (ev_var rfl) (eo_some ev_c) eo_none hx) fun p H1 hp e hp1 => ?_
    rw [cut1] at hp1
    have hb := dpAll_drop 1 (dpAll_mono e ha)
    have hpl : (xs.drop 1).length = (ds.drop 1).length := dpAll_len hb
    have hcmp : ∀ H', Ex H1 H' → Ev (tOp rNe (tCB (rLenS K) (tCons (tVar 4) tNil)) (tOp (rIxTab (He.ga K "BODIES") bodTab) (tC (.ref (He.ga K "BODIES"))) (tVar 1))) [some (.str kind), some (.str z), some (.ref a), some (.int (4 - (f : Int))), some (.ref p), none, none] H' (.bl (!decide ((ds.drop 1).length = nBod z))) := fun H' e' =>
      ev_is (ev_op (ev_cb (ea_cons (ev_var rfl) ea_nil) (rc_lenL (sq_of (e' _ _ hp1)))) (ev_op ev_c (ev_var rfl) (rv_ixTab (bod_at hz))) (rv_ne rfl)) (by rw [int_ne, hpl])
    by_cases hlen : (ds.drop 1).length = nBod z
    · have hnb : 1 ≤ nBod z := by unfold nBod; split <;> omega
      obtain ⟨x0, xr, rfl⟩ : ∃ x0 xr, xs = x0 :: xr := by
        cases xs with
        | nil => rw [List.length_drop, ← hn] at hlen; simp at hlen; omega
        | cons x0 xr => exact ⟨x0, xr, rfl⟩
      obtain ⟨d0, hd0, hx0⟩ := dpAll_get (i := 0) (v := x0) ha rfl
      have hg : ds.getD 0 .none = d0 := by rw [List.getD_eq_getElem?_getD, hd0]; rfl
      refine q_when (b := !isCond d0) (et_is (et_or (b := !isCond d0) (et_test (hcmp H1 (Ex.refl _))) fun _ => et_not (et_B (ev_call (ea_cons (ev_op (ev_var rfl) ev_c (rv_ixL (ex_l e hx) at0)) ea_nil) (spv1 (dp_mono e hx0))))) ?_) ?_ ?_
      · rw [decide_eq_true hlen]; rfl
      · intro hb2 H2 e2
        refine s_ret ev_c fun H3 e3 => ?_
        have := kk H3 (e.trans (e2.trans e3))
        unfold cntBlock at this
        rw [if_neg (by rw [hg]; intro q; rw [q.2] at hb2; cases hb2)] at this
        exact this
      · intro hb2 H2 e2
        have hc : isCond d0 = true := by
          cases q : isCond d0 with
          | true => rfl
          | false => rw [q] at hb2; cases hb2
        have hsq : SqL K H2 p (List.drop 1 (x0 :: xr)) := sq_of (e2 _ _ hp1)
        refine q_asgL (el_mapL (ys := ((ds.drop 1).map (cntBody kind f)).map cV) (ev_var rfl) hsq (by rw [List.length_map, List.length_map, hpl]) (by rw [hpl, List.length_drop]; omega) (fun x => rfl) fun i x y H3 e3 hi hy => ?_) fun q H3 hq e3 hq3 => ?_
        · obtain ⟨d, hd, hdx⟩ := dpAll_get (dpAll_mono (e2.trans e3) hb) hi
          rw [List.getElem?_map, List.getElem?_map, hd] at hy
          cases hy
          have ed : (4 - (f : Int)) + 1 = 5 - (f : Int) := by omega
          refine ev_call (ea_cons (ev_var rfl) (ea_cons (ev_var rfl) (ea_cons (ev_is (ev_op (ev_var rfl) ev_c rv_I0) (congrArg V.int ed)) ea_nil))) (spvBod hkd hdx (hs d ?_))
          exact List.mem_of_mem_drop (List.mem_of_getElem? hd)
        · refine s_ret (ev_counts (g := fun s => 1 + s) rfl (sq_of hq3) fun hno => ?_) fun H4 e4 => ?_
          · rw [cV_some hno] at hq3
            exact ev_op ev_c (ev_cb (ea_cons (ev_var rfl) ea_nil) (rc_sum (sq_of hq3))) rv_I0
          · have := kk H4 (e.trans (e2.trans (e3.trans e4)))
            unfold cntBlock at this
            rw [if_pos ⟨hlen, by rw [hg]; exact hc⟩] at this
            exact this
    · refine q_when (b := true) (et_or (b := true) (et_is (et_test (hcmp H1 (Ex.refl _))) (b := true) (by rw [decide_eq_false hlen]; rfl)) fun q => by cases q) (fun _ H2 e2 => ?_) fun q => by cases q
      refine s_ret ev_c fun H3 e3 => ?_
      have := kk H3 (e.trans (e2.trans e3))
      unfold cntBlock at this
      rw [if_neg fun q => hlen q.1] at this
      exact this
end

end Nt

namespace Nt
open PySem PySem.Spec PyProof.Rows L2 Evl
section
variable {P : Program} {w : World} {K : PySem.W.Frag} {mg : Str → Option Value} {base : Heap}
def chkTab (K : PySem.W.Frag) : List (Str × V) := [("set", .ref (He.ga K "is_set")), ("add", .ref (He.ga K "is_add")), ("wait", .ref (He.ga K "is_wait")), ("ask", .ref (He.ga K "is_ask")), ("answer", .ref (He.ga K "is_answer")), ("grow", .ref (He.ga K "is_one_term")), ("list", .ref (He.ga K "is_one_term"))]
def ChkA (K : PySem.W.Frag) (f : Addr) (sp : Sp) : Prop := (f = He.ga K "is_set" ∧ sp = spL K pSet) ∨ (f = He.ga K "is_add" ∧ sp = spL K pAdd) ∨ (f = He.ga K "is_wait" ∧ sp = spL K pWait) ∨ (f = He.ga K "is_ask" ∧ sp = spL K pAsk) ∨ (f = He.ga K "is_answer" ∧ sp = spL K pAns) ∨ (f = He.ga K "is_one_term" ∧ sp = spL K pTerm)
theorem hA_chk (T : Txt w K mg) (f : Addr) (sp : Sp) (h : ChkA K f sp) : Held P w K mg base 4 f sp := by
  rcases h with ⟨rfl, rfl⟩ | ⟨rfl, rfl⟩ | ⟨rfl, rfl⟩ | ⟨rfl, rfl⟩ | ⟨rfl, rfl⟩ | ⟨rfl, rfl⟩
  · exact ((ok_is_set T).mono (by decide)).held T.g_is_set
  · exact (ok_is_add T).held T.g_is_add
  · exact ((ok_is_wait T).mono (by decide)).held T.g_is_wait
  · exact (ok_is_ask T).held T.g_is_ask
  · exact ((ok_is_answer T).mono (by decide)).held T.g_is_answer
  · exact (ok_is_one_term T).held T.g_is_one_term
theorem chk_at (K : PySem.W.Frag) {kind z : Str} (h : (words kind).contains z = true) : ∃ f, (chkTab K).lookup z = some (.ref f) ∧ ChkA K f (spL K (chk z)) := by
  have hm : z ∈ words kind := List.contains_iff_mem.mp h
  have hz : z = "set" ∨ z = "add" ∨ z = "wait" ∨ z = "ask" ∨ z = "answer" ∨ z = "grow" ∨ z = "list" := by
    unfold words wordsT wordsC at hm
    split at hm
    · simp only [List.mem_cons, List.not_mem_nil, or_false] at hm
      rcases hm with q | q | q | q | q <;> simp [q]
    · simp only [List.mem_cons, List.not_mem_nil, or_false] at hm
      rcases hm with q | q | q | q | q <;> simp [q]
  rcases hz with q | q | q | q | q | q | q
  · subst q; exact ⟨_, rfl, .inl ⟨rfl, rfl⟩⟩
  · subst q; exact ⟨_, rfl, .inr (.inl ⟨rfl, rfl⟩)⟩
  · subst q; exact ⟨_, rfl, .inr (.inr (.inl ⟨rfl, rfl⟩))⟩
  · subst q; exact ⟨_, rfl, .inr (.inr (.inr (.inl ⟨rfl, rfl⟩)))⟩
  · subst q; exact ⟨_, rfl, .inr (.inr (.inr (.inr (.inl ⟨rfl, rfl⟩))))⟩
  · subst q; exact ⟨_, rfl, .inr (.inr (.inr (.inr (.inr ⟨rfl, rfl⟩))))⟩
  · subst q; exact ⟨_, rfl, .inr (.inr (.inr (.inr (.inr ⟨rfl, rfl⟩))))⟩
theorem spvL {g : List PyData → Bool} {a : Addr} {xs : List V} {ds : List PyData} {H : Hp} (hx : SqL K H a xs) (h : DpAll K H xs ds) : SpV (spL K g) [.ref a] H (.bl (g ds)) := fun H1 e Q q E => ⟨a, xs, ds, rfl, ex_l e hx, dpAll_mono e h, fun H' e' => q H' e'⟩
/-- WORDS[kind] -/
theorem words_at (T : Txt w K mg) {kind : Str} (h : okKind kind) (H : Hp) : ∃ a, List.lookup kind [("teller", V.ref (tabAt "WORDS" "teller" K)), ("collector", V.ref (tabAt "WORDS" "collector" K))] = some (.ref a) ∧ SqT K H a ((words kind).map V.str) := by
  rcases h with rfl | rfl
  · exact ⟨_, rfl, T.t_WORDS_teller H⟩
  · exact ⟨_, rfl, T.t_WORDS_collector H⟩
theorem cntStmt_not {kind : Str} {cb : PyData → Option Int} {d : PyData} (h : ∀ z ps, d ≠ .tuple (.str z :: ps)) : cntStmt kind cb d = none := by
  unfold cntStmt
  split
  · exact absurd rfl (h _ _)
  · rfl
theorem cntStmt_blk {kind z : Str} {cb : PyData → Option Int} {ps : List PyData} (hz : isBlk z = true) : cntStmt kind cb (.tuple (.str z :: ps)) = cntBlock cb z ps := if_pos hz
theorem cntStmt_one {kind z : Str} {cb : PyData → Option Int} {ps : List PyData} (hz : isBlk z = false) : cntStmt kind cb (.tuple (.str z :: ps)) = if ((words kind).contains z && chk z ps) = true then some 1 else none := if_neg (by rw [hz]; exact Bool.false_ne_true)
theorem ok_count_statement (T : Txt w K mg) (f k : Nat) (hk4 : 4 ≤ k) (D_count_block : Def P w K mg base CX0 k "count_block" ["kind", "word", "parts", "depth"] (spBlk K f)) : Def P w K mg base CX0 (k + 1) "count_statement" ["kind", "thing", "depth"] (spStm K f) := by
  have hA_check := hA_chk (P := P) (base := base) T
  refine mkDef T.F_count_statement T.g_count_statement sc_count_statement (fun _ _ _ _ _ _ us hl => match us, hl with | [_, _, _], _ => rfl) (fun vs H Q E h => ?_) (fun cdv A outer s H vs Q E hr h => ?_)
  · obtain ⟨_, _, _, _, rfl, _⟩ := h; rfl
  · obtain ⟨kind, v, d, hkd, rfl, hd, hs, kk⟩ := h
    refine ⟨_, (PSs.nox (pss_cons (ps_if (PW.pt (pw_or (pt_not (pt_val (pe_callB call_isi (by rfl) T.m_isinstance boot_isinstance (pa_cons (pv 1) (pa_cons (pe_bltn (v := .ty "tuple") rfl T.m_tuple boot_tuple rfl) pa_nil))))) (pw_or (pt_cmpR op_eq (pe_callB call_len_seq (by rfl) T.m_len boot_len (pa_cons (pv 1) pa_nil)) pe_int (nomark _)) (pw_or1 (pt_not (pt_val (pe_callB call_isi (by rfl) T.m_isinstance boot_isinstance (pa_cons (pe_ix ix_tup (pv 1) pe_int (fun _ _ => rfl)) (pa_cons (pe_bltn (v := .ty "str") rfl T.m_str boot_str rfl) pa_nil))))))))) (pss_one (ps_ret pe_non)) pss_nil)
      (pss_cons (ps_asg (pv 1) (pg_star (n := 2) (i := 1) rfl (pgs_cons (pg_name (i := 3) sc_count_statement.nd rfl (Or.inl rfl)) (pgs_star (pg_name (i := 4) sc_count_statement.nd rfl (Or.inl rfl))))))
      (pss_cons (ps_if (pt_cmpR (op_in_tab T.d_BODIES) (pv 3) (pe_gref rfl T.g_BODIES) (by rfl)) (pss_one (ps_ret (pe_callD D_count_block (hr.mono (by omega)) rfl pass0 (pa_cons (pv 0) (pa_cons (pv 3) (pa_cons (pv 4) (pa_cons (pv 2) pa_nil))))))) pss_nil)
      (pss_cons (ps_if (pt_cmpR op_notIn_seq (pv 3) (pe_ix (ix_tab T.d_WORDS) (pe_gref rfl T.g_WORDS) (pv 0) (fun _ _ => rfl)) (by rfl)) (pss_one (ps_ret pe_non)) pss_nil)
      (pss_cons (ps_set (i := 5) sc_count_statement.nd rfl (Or.inl rfl) (pe_ix (ix_tab T.d_CHECKS) (pe_gref rfl T.g_CHECKS) (pv 3) (fun _ _ => rfl)))
      (pss_one (ps_ret (pe_ifExp (pt_val (pe_callH (i := 5) hA_check (hr.mono (by omega)) rfl (Or.inl rfl) (pa_cons (pv 4) pa_nil))) pe_int pe_non))))))))), ?_⟩
    cases ht : isTup d with
    | false =>
      refine q_when (b := true) (et_or (b := true) (et_not (et_B (ev_cb (ea_cons (ev_var rfl) (ea_cons ev_c ea_nil)) (isi_d hd ((kit_tup d).trans (congrArg some ht)))))) fun q => by cases q) (fun _ H1 e => s_ret ev_c fun H2 e2 => ?_) fun q => by cases q
      have := kk H2 (e.trans e2)
      rw [cntStmt_not (fun z ps q => by rw [q] at ht; cases ht)] at this
      exact this
    | true =>
      obtain ⟨a, xs, ds, rfl, rfl, hx, ha⟩ := dp_tupI hd ht
      obtain ⟨hsz, hsm⟩ := hs.tupI
      cases ha with
      | nil =>
        refine q_when (b := true) (et_or (b := true) (et_not (et_B (ev_cb (ea_cons (ev_var rfl) (ea_cons ev_c ea_nil)) (isi_d hd (kit_tup _))))) fun _ => et_or (a := true) (b := true) (et_test (ev_op (ev_cb (ea_cons (ev_var rfl) ea_nil) (rc_lenT hx)) ev_c (rv_eq rfl))) fun q => by cases q) (fun _ H1 e => s_ret ev_c fun H2 e2 => ?_) fun q => by cases q
        exact kk H2 (e.trans e2)
      | @cons x0 xr d0 dr h0 hr0 =>
        have hl0 : Ev (tOp rEq (tCB (rLenS K) (tCons (tVar 1) tNil)) (tC (.int 0))) [some (.str kind), some (.ref a), some (.int (4 - (f : Int))), none, none, none] H (.bl false) :=
          ev_is (ev_op (ev_cb (ea_cons (ev_var rfl) ea_nil) (rc_lenT hx)) ev_c (rv_eq rfl)) (congrArg V.bl ((int_eq (xr.length + 1) 0).trans rfl))
        refine q_when (b := !isStr d0) (et_is (et_or (b := !isStr d0) (et_not (et_B (ev_cb (ea_cons (ev_var rfl) (ea_cons ev_c ea_nil)) (isi_d hd (kit_tup _))))) fun _ => et_or (a := false) (b := !isStr d0) (et_test hl0) fun _ => et_not (et_B (ev_cb (ea_cons (ev_op (ev_var rfl) ev_c (rv_ixT hx at0)) (ea_cons ev_c ea_nil)) (isi_d h0 (kit_str d0))))) rfl) ?_ ?_
        · intro hb H1 e
          refine s_ret ev_c fun H2 e2 => ?_
          have := kk H2 (e.trans e2)
          rw [cntStmt_not (fun z ps q => by
            injection q with q
            injection q with q1 q2
            rw [q1] at hb; cases hb)] at this
          exact this
        · intro hb H1 e
          have hst : isStr d0 = true := by
            cases q : isStr d0 with
            | true => rfl
            | false => rw [q] at hb; cases hb
          obtain ⟨z, rfl, rfl⟩ := dp_strI h0 hst
          refine ⟨_, rfl, a, _, rfl, ex_t e hx, by show 2 ≤ (xr.length + 1) + 1; omega, by decide, fun p hp => ?_⟩
          have e1 : List.take (xr.length + 1 + 1 - 2) (List.drop 1 (V.str z :: xr)) = xr := by
            rw [List.drop_succ_cons, List.drop_zero, List.take_of_length_le (by omega)]
          have e2 : List.drop (xr.length + 1 + 1 - 2) (List.drop 1 (V.str z :: xr)) = [] := by
            rw [List.drop_succ_cons, List.drop_zero, List.drop_of_length_le (by omega)]
          show gCons (gName 3) (gCons (gName 4) gNil) ([V.str z] ++ [V.ref p] ++ List.drop (xr.length + 1 + 1 - 2) (List.drop 1 (V.str z :: xr))) _ (upd H1 p (.lst (List.take (xr.length + 1 + 1 - 2) (List.drop 1 (V.str z :: xr))))) _
          rw [e1, e2]
          refine ⟨_, _, rfl, _, _, rfl, rfl, ?_⟩
          have e3 : Ex H1 (upd H1 p (.lst xr)) := Ex.new hp
          have hq : SqL K (upd H1 p (.lst xr)) p xr := sq_of upd_same
          have hdr : DpAll K (upd H1 p (.lst xr)) xr dr := dpAll_mono (e.trans e3) hr0
          refine q_when (et_is (et_test (ev_op (ev_var rfl) ev_c rv_inTab)) (bod_is z)) ?_ ?_
          · intro hz H2 e4
            refine s_ret (ev_call (ea_cons (ev_var rfl) (ea_cons (ev_var rfl) (ea_cons (ev_var rfl) (ea_cons (ev_var rfl) ea_nil)))) (spvBlk hkd hz (ex_l e4 hq) (dpAll_mono e4 hdr) (by have := hsz; rw [List.length_cons] at this; omega) fun d hd => hsm d (List.mem_cons_of_mem _ hd))) fun H3 e5 => ?_
            have := kk H3 (e.trans (e3.trans (e4.trans e5)))
            rw [cntStmt_blk hz] at this
            exact this
          · intro hz H2 e4
            obtain ⟨aw, hw1, hw2⟩ := words_at T hkd H2
            refine q_when (b := !(words kind).contains z) (et_is (et_test (ev_op (ev_var rfl) (ev_op ev_c (ev_var rfl) (rv_ixTab hw1)) (rv_niT hw2 rfl (flat_strs _)))) (by rw [in_strs])) ?_ ?_
            · intro hc H3 e5
              refine s_ret ev_c fun H4 e6 => ?_
              have := kk H4 (e.trans (e3.trans (e4.trans (e5.trans e6))))
              have hc' : (words kind).contains z = false := by
                cases q : (words kind).contains z with
                | false => rfl
                | true => rw [q] at hc; cases hc
              rw [cntStmt_one hz, hc'] at this
              exact this
            · intro hc H3 e5
              have hc' : (words kind).contains z = true := by
                cases q : (words kind).contains z with
                | true => rfl
                | false => rw [q] at hc; cases hc
              obtain ⟨fc, hf1, hf2⟩ := chk_at K hc'
              refine q_asg (ev_op ev_c (ev_var rfl) (rv_ixTab hf1)) fun H4 e6 => ?_
              have e7 := e4.trans (e5.trans e6)
              refine s_ret (ev_if (v := cV (if chk z dr = true then some 1 else none)) (et_B (ev_callH rfl hf2 (ea_cons (ev_var rfl) ea_nil) (spvL (ex_l e7 hq) (dpAll_mono e7 hdr)))) (fun hb => ev_is ev_c (by rw [if_pos hb]; rfl)) (fun hb => ev_is ev_c (by rw [if_neg (by rw [hb]; exact Bool.false_ne_true)]; rfl))) fun H5 e8 => ?_
              have := kk H5 (e.trans (e3.trans (e7.trans e8)))
              rw [cntStmt_one hz, hc', Bool.true_and] at this
              exact this
end

end Nt

namespace Nt
open PySem PySem.Spec PyProof.Rows L2 Evl
section
variable {P : Program} {w : World} {K : PySem.W.Frag} {mg : Str → Option Value} {base : Heap}
theorem cntBody_not {kind : Str} {f : Nat} {d : PyData} (h : isTup d = false) : cntBody kind f d = none := by
  cases d with
  | tuple xs => cases h
  | _ => cases f <;> rfl
/-- the guard: not a tuple, or too deep -/
theorem ok_count_body0 (T : Txt w K mg) : Def P w K mg base CX0 1 "count_body" ["kind", "thing", "depth"] (spBod K 0) := by
  have D_count_statement : Def P w K mg base CX0 0 "count_statement" ["kind", "thing", "depth"] (fun _ _ _ _ => False) := Def.idle 0 T.F_count_statement T.g_count_statement (fun _ _ _ _ _ _ us hl => match us, hl with | [_, _, _], _ => rfl)
  refine mkDef T.F_count_body T.g_count_body sc_count_body (fun _ _ _ _ _ _ us hl => match us, hl with | [_, _, _], _ => rfl) (fun vs H Q E h => ?_) (fun cdv A outer s H vs Q E hr h => ?_)
  · obtain ⟨_, _, _, _, rfl, _⟩ := h; rfl
  · obtain ⟨kind, v, d, hkd, rfl, hd, hs, kk⟩ := h
    refine ⟨_, (PSs.nox (pss_cons (ps_if (PW.pt (pw_or (pt_not (pt_val (pe_callB call_isi (by rfl) T.m_isinstance boot_isinstance (pa_cons (pv 1) (pa_cons (pe_bltn (v := .ty "tuple") rfl T.m_tuple boot_tuple rfl) pa_nil))))) (pw_or1 (PW.pt (pw_and (pt_cmpR op_gt (pe_callB call_len_seq (by rfl) T.m_len boot_len (pa_cons (pv 1) pa_nil)) pe_int (nomark _)) (pw_and1 (pt_cmpR op_gt (pv 2) (pe_gint rfl T.c_MOST_DEPTH) (nomark _)))))))) (pss_one (ps_ret pe_non)) pss_nil)
      (pss_cons (ps_setLc (i := 3) (own := [("statement", 4)]) (by rfl) sc_count_body.nd rfl rfl (sw_true rfl rfl rfl (by decide +kernel)) (pi_tup (pv 1)) (blkOk_by (own := [("statement", 4)]) (N := N_count_body) (sc := defScope s_count_body) (by decide +kernel)) (fun _ _ _ _ _ => (pg_name (i := 4) sc_count_body.nd rfl (Or.inl rfl))) (fun _ _ _ _ _ => pts_nil) (fun _ _ _ _ _ => (pe_callD D_count_statement (hr.mono (by omega)) rfl pass0 (pa_cons (pv 0) (pa_cons (pv 4) (pa_cons (pv 2) pa_nil))))))
      (pss_one (ps_ret (pe_ifExp (pt_cmpR op_in_seq pe_non (pv 3) (by rfl)) pe_non (pe_callB (cr_sum rfl) (by rfl) T.m_sum boot_sum (pa_cons (pv 3) pa_nil)))))))), ?_⟩
    cases ht : isTup d with
    | false =>
      refine q_when (b := true) (et_or (b := true) (et_not (et_B (ev_cb (ea_cons (ev_var rfl) (ea_cons ev_c ea_nil)) (isi_d hd ((kit_tup d).trans (congrArg some ht)))))) fun q => by cases q) (fun _ H1 e => s_ret ev_c fun H2 e2 => ?_) fun q => by cases q
      have := kk H2 (e.trans e2)
      rw [cntBody_not ht] at this
      exact this
    | true =>
      obtain ⟨a, xs, ds, rfl, rfl, hx, ha⟩ := dp_tupI hd ht
      cases ha with
      | nil =>
        refine q_when (b := false) (et_or (b := false) (et_not (et_B (ev_cb (ea_cons (ev_var rfl) (ea_cons ev_c ea_nil)) (isi_d hd (kit_tup _))))) fun _ => et_and (a := false) (b := false) (et_test (ev_op (ev_cb (ea_cons (ev_var rfl) ea_nil) (rc_lenT hx)) ev_c rv_gt)) fun q => by cases q) (fun q => by cases q) fun _ H1 e => ?_
        refine q_asgL (el_mapT (ys := (([] : List (Option Int)).map cV)) (ev_var rfl) (ex_t e hx) rfl (by simp) (fun x => rfl) fun i x y H3 e3 hi hy => by cases hi) fun q H3 hq e3 hq3 => ?_
        refine s_ret (ev_counts (os := []) (g := fun s => s) rfl (sq_of hq3) fun hno => ?_) fun H4 e4 => kk H4 (e.trans (e3.trans e4))
        exact ev_cb (ea_cons (ev_var rfl) ea_nil) (rc_sum (ns := []) (sq_of hq3))
      | @cons x0 xr d0 dr h0 hr0 =>
        refine q_when (b := true) (et_or (b := true) (et_not (et_B (ev_cb (ea_cons (ev_var rfl) (ea_cons ev_c ea_nil)) (isi_d hd (kit_tup _))))) fun _ => et_and (a := true) (b := true) (et_is (et_test (ev_op (ev_cb (ea_cons (ev_var rfl) ea_nil) (rc_lenT hx)) ev_c rv_gt)) (decide_eq_true (by rw [List.length_cons]; omega))) fun _ => et_test (ev_op (ev_var rfl) ev_c rv_gt)) (fun _ H1 e => s_ret ev_c fun H2 e2 => kk H2 (e.trans e2)) fun q => by cases q
theorem ok_count_bodyS (T : Txt w K mg) (f k : Nat) (D_count_statement : Def P w K mg base CX0 k "count_statement" ["kind", "thing", "depth"] (spStm K f)) : Def P w K mg base CX0 (k + 1) "count_body" ["kind", "thing", "depth"] (spBod K (f + 1)) := by
  refine mkDef T.F_count_body T.g_count_body sc_count_body (fun _ _ _ _ _ _ us hl => match us, hl with | [_, _, _], _ => rfl) (fun vs H Q E h => ?_) (fun cdv A outer s H vs Q E hr h => ?_)
  · obtain ⟨_, _, _, _, rfl, _⟩ := h; rfl
  · obtain ⟨kind, v, d, hkd, rfl, hd, hs, kk⟩ := h
    have e5 : (5 - ((f + 1 : Nat) : Int)) = 4 - (f : Int) := by omega
    rw [e5]
    refine ⟨_, (PSs.nox (pss_cons (ps_if (PW.pt (pw_or (pt_not (pt_val (pe_callB call_isi (by rfl) T.m_isinstance boot_isinstance (pa_cons (pv 1) (pa_cons (pe_bltn (v := .ty "tuple") rfl T.m_tuple boot_tuple rfl) pa_nil))))) (pw_or1 (PW.pt (pw_and (pt_cmpR op_gt (pe_callB call_len_seq (by rfl) T.m_len boot_len (pa_cons (pv 1) pa_nil)) pe_int (nomark _)) (pw_and1 (pt_cmpR op_gt (pv 2) (pe_gint rfl T.c_MOST_DEPTH) (nomark _)))))))) (pss_one (ps_ret pe_non)) pss_nil)
      (pss_cons (ps_setLc (i := 3) (own := [("statement", 4)]) (by rfl) sc_count_body.nd rfl rfl (sw_true rfl rfl rfl (by decide +kernel)) (pi_tup (pv 1)) (blkOk_by (own := [("statement", 4)]) (N := N_count_body) (sc := defScope s_count_body) (by decide +kernel)) (fun _ _ _ _ _ => (pg_name (i := 4) sc_count_body.nd rfl (Or.inl rfl))) (fun _ _ _ _ _ => pts_nil) (fun _ _ _ _ _ => (pe_callD D_count_statement (hr.mono (by omega)) rfl pass0 (pa_cons (pv 0) (pa_cons (pv 4) (pa_cons (pv 2) pa_nil))))))
      (pss_one (ps_ret (pe_ifExp (pt_cmpR op_in_seq pe_non (pv 3) (by rfl)) pe_non (pe_callB (cr_sum rfl) (by rfl) T.m_sum boot_sum (pa_cons (pv 3) pa_nil)))))))), ?_⟩
    cases ht : isTup d with
    | false =>
      refine q_when (b := true) (et_or (b := true) (et_not (et_B (ev_cb (ea_cons (ev_var rfl) (ea_cons ev_c ea_nil)) (isi_d hd ((kit_tup d).trans (congrArg some ht)))))) fun q => by cases q) (fun _ H1 e => s_ret ev_c fun H2 e2 => ?_) fun q => by cases q
      have := kk H2 (e.trans e2)
      rw [cntBody_not ht] at this
      exact this
    | true =>
      obtain ⟨a, xs, ds, rfl, rfl, hx, ha⟩ := dp_tupI hd ht
      obtain ⟨hsz, hsm⟩ := hs.tupI
      have hn := dpAll_len ha
      refine q_when (b := false) (et_is (et_or (b := false) (et_not (et_B (ev_cb (ea_cons (ev_var rfl) (ea_cons ev_c ea_nil)) (isi_d hd (kit_tup _))))) fun _ => et_is (et_and (b := false) (et_test (ev_op (ev_cb (ea_cons (ev_var rfl) ea_nil) (rc_lenT hx)) ev_c rv_gt)) fun _ => et_is (et_test (ev_op (ev_var rfl) ev_c rv_gt)) (decide_eq_false (by omega))) (Bool.and_false _)) rfl) (fun q => by cases q) fun _ H1 e => ?_
      refine q_asgL (el_mapT (ys := ((ds.map (cntStmt kind (cntBody kind f))).map cV)) (ev_var rfl) (ex_t e hx) (by rw [List.length_map, List.length_map, hn]) (by omega) (fun x => rfl) fun i x y H3 e3 hi hy => ?_) fun q H3 hq e3 hq3 => ?_
      · obtain ⟨d, hd, hdx⟩ := dpAll_get (dpAll_mono (e.trans e3) ha) hi
        rw [List.getElem?_map, List.getElem?_map, hd] at hy
        cases hy
        exact ev_call (ea_cons (ev_var rfl) (ea_cons (ev_var rfl) (ea_cons (ev_var rfl) ea_nil))) (spvStm hkd hdx (hsm d (List.mem_of_getElem? hd)))
      · refine s_ret (ev_counts (g := fun s => s) rfl (sq_of hq3) fun hno => ?_) fun H4 e4 => ?_
        · rw [cV_some hno] at hq3
          exact ev_cb (ea_cons (ev_var rfl) ea_nil) (rc_sum (sq_of hq3))
        · have := kk H4 (e.trans (e3.trans e4))
          rw [show (sumO (ds.map (cntStmt kind (cntBody kind f)))).map (fun s => s) = sumO (ds.map (cntStmt kind (cntBody kind f))) from Option.map_id']
          exact this
theorem ok_count_body (T : Txt w K mg) : ∀ f : Nat, Def P w K mg base CX0 (4 + 3 * f) "count_body" ["kind", "thing", "depth"] (spBod K f)
  | 0 => (ok_count_body0 T).mono (by decide)
  | f + 1 => (ok_count_bodyS T f (4 + 3 * f + 1 + 1) (ok_count_statement T f (4 + 3 * f + 1) (by omega) (ok_count_block T f (4 + 3 * f) (by omega) (ok_count_body T f)))).mono (by omega)
/-! ### is_program -/
def isProg : PyData → Bool
  | .tuple [.str kind, body] => (kind == "teller" || kind == "collector") && (match cntBody kind 4 body with
    | some n => decide (n ≤ 24)
    | none => false)
  | _ => false
def spProg (K : PySem.W.Frag) : Sp := fun vs H Q _ => ∃ v d, vs = [v] ∧ Dp K H v d ∧ Sm d ∧ ∀ H', Same H H' → Q (.bl (isProg d)) H'
theorem spvProg {v : V} {d : PyData} {H : Hp} (h : Dp K H v d) (hs : Sm d) : SpV (spProg K) [v] H (.bl (isProg d)) := fun H1 e Q q E => ⟨v, d, rfl, dp_mono e h, hs, fun H' e' => q H' e'⟩
theorem isProg_not {d : PyData} (h : isTup d = false) : isProg d = false := by
  cases d <;> first | rfl | cases h
theorem isProg_len {ds : List PyData} (h : ¬ ds.length = 2) : isProg (.tuple ds) = false := by
  match ds, h with
  | [], _ => rfl
  | [x], _ => cases x <;> rfl
  | [_, _], h => exact absurd rfl h
  | x :: _ :: _ :: _, _ => cases x <;> rfl
theorem isProg_str {d0 d1 : PyData} (h : isStr d0 = false) : isProg (.tuple [d0, d1]) = false := by
  cases d0 <;> first | rfl | cases h
theorem kind_is (K : PySem.W.Frag) (z : Str) : (List.lookup z [(("teller" : Str), V.ref (tabAt "WORDS" "teller" K)), (("collector" : Str), V.ref (tabAt "WORDS" "collector" K))]).isSome = (z == "teller" || z == "collector") := by
  rw [List.lookup_cons, List.lookup_cons, List.lookup_nil]
  cases (z == "teller") <;> cases (z == "collector") <;> rfl
theorem ok_is_program (T : Txt w K mg) : Def P w K mg base CX0 17 "is_program" ["thing"] (spProg K) := by
  have D_count_body := ok_count_body (P := P) (base := base) T 4
  refine mkDef T.F_is_program T.g_is_program sc_is_program (fun _ _ _ _ _ _ us hl => match us, hl with | [_], _ => rfl) (fun vs H Q E h => ?_) (fun cdv A outer s H vs Q E hr h => ?_)
  · obtain ⟨_, _, rfl, _⟩ := h; rfl
  · obtain ⟨v, d, rfl, hd, hs, kk⟩ := h
    refine ⟨_, (PSs.nox (pss_cons (ps_if (PW.pt (pw_or (pt_not (pt_val (pe_callB call_isi (by rfl) T.m_isinstance boot_isinstance (pa_cons (pv 0) (pa_cons (pe_bltn (v := .ty "tuple") rfl T.m_tuple boot_tuple rfl) pa_nil))))) (pw_or (pt_cmpR op_ne (pe_callB call_len_seq (by rfl) T.m_len boot_len (pa_cons (pv 0) pa_nil)) pe_int (nomark _)) (pw_or (pt_not (pt_val (pe_callB call_isi (by rfl) T.m_isinstance boot_isinstance (pa_cons (pe_ix ix_tup (pv 0) pe_int (fun _ _ => rfl)) (pa_cons (pe_bltn (v := .ty "str") rfl T.m_str boot_str rfl) pa_nil))))) (pw_or1 (pt_cmpR (op_ni_tab T.d_WORDS) (pe_ix ix_tup (pv 0) pe_int (fun _ _ => rfl)) (pe_gref rfl T.g_WORDS) (by rfl))))))) (pss_one (ps_ret pe_bl)) pss_nil)
      (pss_cons (ps_set (i := 1) sc_is_program.nd rfl (Or.inl rfl) (pe_callD D_count_body (hr.mono (by omega)) rfl pass0 (pa_cons (pe_ix ix_tup (pv 0) pe_int (fun _ _ => rfl)) (pa_cons (pe_ix ix_tup (pv 0) pe_int (fun _ _ => rfl)) (pa_cons pe_int pa_nil)))))
      (pss_one (ps_ret (pe_and (pe_cmpR op_notN (pv 1) pe_non (nomark _)) (pe_one (pe_cmpR op_le (pv 1) (pe_gint rfl T.c_MOST_STATEMENTS) (nomark _))))))))), ?_⟩
    cases ht : isTup d with
    | false =>
      refine q_when (b := true) (et_or (b := true) (et_not (et_B (ev_cb (ea_cons (ev_var rfl) (ea_cons ev_c ea_nil)) (isi_d hd ((kit_tup d).trans (congrArg some ht)))))) fun q => by cases q) (fun _ H1 e => s_ret ev_c fun H2 e2 => ?_) fun q => by cases q
      have := kk H2 (e.trans e2)
      rw [isProg_not ht] at this
      exact this
    | true =>
      obtain ⟨a, xs, ds, rfl, rfl, hx, ha⟩ := dp_tupI hd ht
      obtain ⟨hsz, hsm⟩ := hs.tupI
      have hn := dpAll_len ha
      by_cases hl : xs.length = 2
      · obtain ⟨x0, x1, rfl⟩ := len2 hl
        obtain ⟨d0, d1, rfl, h0, h1⟩ := dp2 ha
        have hl0 : Ev (tOp rNe (tCB (rLenS K) (tCons (tVar 0) tNil)) (tC (.int 2))) [some (.ref a), none] H (.bl false) := ev_op (ev_cb (ea_cons (ev_var rfl) ea_nil) (rc_lenT hx)) ev_c (rv_ne rfl)
        cases hst : isStr d0 with
        | false =>
          refine q_when (b := true) (et_is (et_or (b := true) (et_not (et_B (ev_cb (ea_cons (ev_var rfl) (ea_cons ev_c ea_nil)) (isi_d hd (kit_tup _))))) fun _ => et_or (a := false) (b := true) (et_test hl0) fun _ => et_or (a := true) (b := true) (et_not (et_B (ev_cb (ea_cons (ev_op (ev_var rfl) ev_c (rv_ixT hx at0)) (ea_cons ev_c ea_nil)) (isi_d h0 ((kit_str d0).trans (congrArg some hst)))))) fun q => by cases q) rfl) (fun _ H1 e => s_ret ev_c fun H2 e2 => ?_) fun q => by cases q
          have := kk H2 (e.trans e2)
          rw [isProg_str hst] at this
          exact this
        | true =>
          obtain ⟨z, rfl, rfl⟩ := dp_strI h0 hst
          refine q_when (b := !(z == "teller" || z == "collector")) (et_is (et_or (b := !(z == "teller" || z == "collector")) (et_not (et_B (ev_cb (ea_cons (ev_var rfl) (ea_cons ev_c ea_nil)) (isi_d hd (kit_tup _))))) fun _ => et_or (a := false) (b := !(z == "teller" || z == "collector")) (et_test hl0) fun _ => et_or (a := false) (b := !(z == "teller" || z == "collector")) (et_not (et_B (ev_cb (ea_cons (ev_op (ev_var rfl) ev_c (rv_ixT hx at0)) (ea_cons ev_c ea_nil)) (isi_d h0 (kit_str _))))) fun _ => et_is (et_test (ev_op (ev_op (ev_var rfl) ev_c (rv_ixT hx at0)) ev_c rv_niTab)) (congrArg not (kind_is K z))) rfl) ?_ ?_
          · intro hb H1 e
            refine s_ret ev_c fun H2 e2 => ?_
            have := kk H2 (e.trans e2)
            have hz : (z == "teller" || z == "collector") = false := by
              cases q : (z == "teller" || z == "collector") with
              | false => rfl
              | true => rw [q] at hb; cases hb
            have hp : isProg (.tuple [.str z, d1]) = false := by
              show ((z == "teller" || z == "collector") && _) = false
              rw [hz]; rfl
            rw [hp] at this
            exact this
          · intro hb H1 e
            have hz : (z == "teller" || z == "collector") = true := by
              cases q : (z == "teller" || z == "collector") with
              | true => rfl
              | false => rw [q] at hb; cases hb
            have hkd : okKind z := by
              rcases Bool.or_eq_true_iff.mp hz with q | q
              · exact .inl (eq_of_beq q)
              · exact .inr (eq_of_beq q)
            have hx1 := ex_t e hx
            refine q_asg (ev_call (ea_cons (ev_op (ev_var rfl) ev_c (rv_ixT hx1 at0)) (ea_cons (ev_op (ev_var rfl) ev_c (rv_ixT hx1 at1)) (ea_cons ev_c ea_nil))) (spvBod (f := 4) hkd (dp_mono e h1) (hsm _ (by simp)))) fun H2 e2 => ?_
            have hp : isProg (.tuple [.str z, d1]) = (match cntBody z 4 d1 with
                | some n => decide (n ≤ 24)
                | none => false) := by
              show ((z == "teller" || z == "collector") && _) = _
              rw [hz, Bool.true_and]
            rw [hp] at kk
            cases hc : cntBody z 4 d1 with
            | none =>
              rw [hc] at kk
              exact s_ret (ev_andV (a := false) (b := false) (ev_op (ev_var rfl) ev_c rv_notN) fun q => by cases q) fun H3 e3 => kk H3 (e.trans (e2.trans e3))
            | some n =>
              rw [hc] at kk
              exact s_ret (ev_andV (a := true) (ev_op (ev_var rfl) ev_c rv_notN) fun _ => ev_op (ev_var rfl) ev_c rv_le) fun H3 e3 => kk H3 (e.trans (e2.trans e3))
      · refine q_when (b := true) (et_or (b := true) (et_not (et_B (ev_cb (ea_cons (ev_var rfl) (ea_cons ev_c ea_nil)) (isi_d hd (kit_tup _))))) fun _ => et_or (a := true) (b := true) (et_is (et_test (ev_op (ev_cb (ea_cons (ev_var rfl) ea_nil) (rc_lenT hx)) ev_c (rv_ne rfl))) ((int_ne xs.length 2).trans (by rw [decide_eq_false hl]; rfl))) fun q => by cases q) (fun _ H1 e => s_ret ev_c fun H2 e2 => ?_) fun q => by cases q
        have := kk H2 (e.trans e2)
        rw [isProg_len (by rw [← hn]; exact hl)] at this
        exact this
end

end Nt

namespace Nt
open PySem PySem.Spec PyProof.Rows L2 Evl
/-! ### counts of programs as data: what needs no bag (out of the older texts) -/
def okSimple (kind : Str) (d : PyData) : Prop := ∃ z ps, d = .tuple (.str z :: ps) ∧ (words kind).contains z = true ∧ chk z ps = true
theorem sumO_one (o : Option Int) : sumO [o] = o := by
  cases o with
  | none => rfl
  | some n => show some (n + 0) = some n; rw [Int.add_zero]
theorem sumO_nil : sumO [] = some 0 := rfl
theorem sumO_cons (o : Option Int) (l : List (Option Int)) : sumO (o :: l) = match o, sumO l with
    | some a, some b => some (a + b)
    | _, _ => none := by
  unfold sumO
  cases o with
  | none => rfl
  | some a =>
    rw [List.any_cons]
    show (if (false || l.any Option.isNone) = true then none else some (a + (l.map (·.getD 0)).sum)) = _
    rw [Bool.false_or]
    by_cases h : l.any Option.isNone = true
    · rw [if_pos h, if_pos h]
    · rw [if_neg h, if_neg h]
theorem sumO_two (a b : Option Int) : sumO [a, b] = match a, b with
    | some x, some y => some (x + y)
    | _, _ => none := by
  rw [sumO_cons, sumO_one]
  all_goals (cases a <;> cases b <;> rfl)
theorem sumO_append (k l : List (Option Int)) : sumO (k ++ l) = match sumO k, sumO l with
    | some a, some b => some (a + b)
    | _, _ => none := by
  induction k with
  | nil =>
    rw [List.nil_append, sumO_nil]
    cases sumO l with
    | none => rfl
    | some b => show _ = some (0 + b); rw [Int.zero_add]
  | cons o k ih =>
    rw [List.cons_append, sumO_cons, ih, sumO_cons]
    cases o with
    | none => rfl
    | some a =>
      cases sumO k with
      | none => rfl
      | some b =>
        cases sumO l with
        | none => rfl
        | some c => show some (a + (b + c)) = some (a + b + c); rw [Int.add_assoc]
theorem cntBody_nil (kind : Str) (f : Nat) : cntBody kind f (.tuple []) = some 0 := by cases f <;> rfl
theorem cntBody_S (kind : Str) (f : Nat) (ss : List PyData) : cntBody kind (f + 1) (.tuple ss) = sumO (ss.map (cntStmt kind (cntBody kind f))) := rfl
theorem Sm.of_atoms {xs : List PyData} (h : xs.length ≤ 20000) (ha : ∀ x, x ∈ xs → Sm x) : Sm (.tuple xs) := .tuple h ha
theorem sm_isOne {ns : List Str} {d : PyData} (h : isOne ns d = true) : Sm d := by
  cases d <;> first | exact .str _ | cases h
theorem sm_isVal {d : PyData} (h : isVal d = true) : Sm d := by
  cases d <;> first | exact .int _ | cases h
theorem sm_isTerm {d : PyData} (h : isTerm d = true) : Sm d := by
  rcases Bool.or_eq_true_iff.mp h with h | h
  · exact sm_isVal h
  · exact sm_isOne h
theorem all2 {P : PyData → Prop} {a b : PyData} (ha : P a) (hb : P b) : ∀ x, x ∈ [a, b] → P x := by
  intro x hx
  rcases List.mem_cons.mp hx with rfl | hx
  · exact ha
  · rw [List.mem_singleton.mp hx]; exact hb
theorem all3 {P : PyData → Prop} {a b c : PyData} (ha : P a) (hb : P b) (hc : P c) : ∀ x, x ∈ [a, b, c] → P x := by
  intro x hx
  rcases List.mem_cons.mp hx with rfl | hx
  · exact ha
  · exact all2 hb hc x hx
theorem all4 {P : PyData → Prop} {a b c d : PyData} (ha : P a) (hb : P b) (hc : P c) (hd : P d) : ∀ x, x ∈ [a, b, c, d] → P x := by
  intro x hx
  rcases List.mem_cons.mp hx with rfl | hx
  · exact ha
  · exact all3 hb hc hd x hx
theorem all1 {P : PyData → Prop} {a : PyData} (ha : P a) : ∀ x, x ∈ [a] → P x := by
  intro x hx
  rw [List.mem_singleton.mp hx]; exact ha
theorem sm_isCond {d : PyData} (h : isCond d = true) : Sm d := by
  unfold isCond at h
  split at h
  · obtain ⟨h1, h2⟩ := He.ba h
    obtain ⟨h2, h3⟩ := He.ba h2
    exact .tuple ok20 (all3 (sm_isOne h1) (sm_isOne h2) (sm_isTerm h3))
  · cases h
theorem chk_len {z : Str} {ps : List PyData} (h : chk z ps = true) : ps.length ≤ 3 ∧ ∀ x, x ∈ ps → Sm x := by
  unfold chk at h
  split at h
  · by_cases hl : ps.length = 2
    · obtain ⟨a, b, rfl⟩ := len2 hl
      obtain ⟨h1, h2⟩ := He.ba h
      exact ⟨by simp, all2 (sm_isOne h1) (sm_isVal h2)⟩
    · rw [pSet_len hl] at h; cases h
  · split at h
    · by_cases hl : ps.length = 2
      · obtain ⟨a, b, rfl⟩ := len2 hl
        obtain ⟨h1, h2⟩ := He.ba h
        exact ⟨by simp, all2 (sm_isOne h1) (sm_isTerm h2)⟩
      · rw [pAdd_len hl] at h; cases h
    · split at h
      · by_cases hl : ps.length = 1
        · obtain ⟨a, rfl⟩ := len1 hl
          refine ⟨by simp, all1 ?_⟩
          cases a <;> first | exact .int _ | cases h
        · rw [pWait_len hl] at h; cases h
      · split at h
        · by_cases hl : ps.length = 3
          · obtain ⟨a, b, c, rfl⟩ := len3 hl
            obtain ⟨h1, h2⟩ := He.ba h
            obtain ⟨h2, h3⟩ := He.ba h2
            exact ⟨by simp, all3 (sm_isOne h1) (sm_isTerm h2) (sm_isOne h3)⟩
          · rw [pAsk_len hl] at h; cases h
        · split at h
          · by_cases hl : ps.length = 1
            · obtain ⟨a, rfl⟩ := len1 hl
              refine ⟨by simp, all1 ?_⟩
              cases a <;> first | exact .int _ | cases h
            · rw [pAns_len hl] at h; cases h
          · by_cases hl : ps.length = 1
            · obtain ⟨a, rfl⟩ := len1 hl
              exact ⟨by simp, all1 (sm_isTerm h)⟩
            · rw [pTerm_len hl] at h; cases h
theorem okSimple.sm {kind : Str} {d : PyData} (h : okSimple kind d) : Sm d := by
  obtain ⟨z, ps, rfl, _, h⟩ := h
  obtain ⟨h1, h2⟩ := chk_len h
  refine .tuple (by rw [List.length_cons]; omega) fun x hx => ?_
  rcases List.mem_cons.mp hx with rfl | hx
  · exact .str _
  · exact h2 x hx
theorem words_noblk {kind z : Str} (h : (words kind).contains z = true) : isBlk z = false := by
  have hm : z ∈ words kind := List.contains_iff_mem.mp h
  unfold words wordsT wordsC at hm
  split at hm <;> simp only [List.mem_cons, List.not_mem_nil, or_false] at hm <;> rcases hm with q | q | q | q | q <;> (rw [q]; decide +kernel)
theorem okSimple.cnt {kind : Str} {d : PyData} (h : okSimple kind d) (cb : PyData → Option Int) : cntStmt kind cb d = some 1 := by
  obtain ⟨z, ps, rfl, h1, h2⟩ := h
  rw [cntStmt_one (words_noblk h1), h1, h2]; rfl
theorem simple_sum {kind : Str} {cb : PyData → Option Int} : ∀ {fs : List PyData}, (∀ d, d ∈ fs → okSimple kind d) → sumO (fs.map (cntStmt kind cb)) = some (fs.length : Int)
  | [], _ => rfl
  | d :: fs, h => by
    rw [List.map_cons, sumO_cons, (h d (List.mem_cons_self ..)).cnt, simple_sum fun x hx => h x (List.mem_cons_of_mem _ hx)]
    show some (1 + (fs.length : Int)) = some ((fs.length + 1 : Nat) : Int)
    congr 1; omega
theorem isProg_eq {kind : Str} {b : PyData} (h : okKind kind) : isProg (.tuple [.str kind, b]) = (match cntBody kind 4 b with
    | some n => decide (n ≤ 24)
    | none => false) := by
  have hz : (kind == "teller" || kind == "collector") = true := by rcases h with rfl | rfl <;> decide +kernel
  show ((kind == "teller" || kind == "collector") && _) = _
  rw [hz, Bool.true_and]
  all_goals rfl

/-! ### data of small depth and small lengths -/
def isAt : PyData → Bool
  | .none | .bool _ | .int _ | .str _ => true
  | _ => false
theorem isAt_nt {d : PyData} (h : isAt d = true) : isTup d = false := by
  cases d <;> first | rfl | cases h
theorem isAt_sm {d : PyData} (h : isAt d = true) : Sm d := by
  cases d <;> first | exact .none | exact .bool _ | exact .int _ | exact .str _ | cases h
def Sd : Nat → PyData → Prop
  | 0, d => isAt d = true
  | k + 1, d => isAt d = true ∨ ∃ ds, d = .tuple ds ∧ ds.length ≤ 1000 ∧ ∀ x, x ∈ ds → Sd k x
theorem Sd.sm : ∀ {k : Nat} {d : PyData}, Sd k d → Sm d
  | 0, _, h => isAt_sm h
  | k + 1, d, h => by
    rcases h with h | ⟨ds, rfl, hl, ha⟩
    · exact isAt_sm h
    · exact .tuple (by omega) fun x hx => (ha x hx).sm
theorem Sd.atom {k : Nat} {d : PyData} (h : isAt d = true) : Sd k d := by
  cases k with
  | zero => exact h
  | succ k => exact .inl h
theorem Sd.up : ∀ {k : Nat} {d : PyData}, Sd k d → Sd (k + 1) d
  | 0, _, h => .inl h
  | k + 1, d, h => by
    rcases h with h | ⟨ds, rfl, hl, ha⟩
    · exact .inl h
    · exact .inr ⟨ds, rfl, hl, fun x hx => (ha x hx).up⟩
theorem Sd.mono {k m : Nat} {d : PyData} (h : Sd k d) (hm : k ≤ m) : Sd m d := by
  obtain ⟨j, rfl⟩ := Nat.exists_eq_add_of_le hm
  induction j with
  | zero => exact h
  | succ j ih => exact (ih (by omega)).up
theorem Sd.tup {k : Nat} {ds : List PyData} (hl : ds.length ≤ 1000) (ha : ∀ x, x ∈ ds → Sd k x) : Sd (k + 1) (.tuple ds) := .inr ⟨ds, rfl, hl, ha⟩
theorem Sd.tupI {k : Nat} {ds : List PyData} (h : Sd k (.tuple ds)) : ∃ k', k = k' + 1 ∧ ds.length ≤ 1000 ∧ ∀ x, x ∈ ds → Sd k' x := by
  cases k with
  | zero => cases h
  | succ k =>
    rcases h with h | ⟨es, e, hl, ha⟩
    · cases h
    · cases e
      exact ⟨k, rfl, hl, ha⟩
theorem nt_isOne {ns : List Str} {d : PyData} (h : isOne ns d = true) : isAt d = true := by
  cases d <;> first | rfl | cases h
theorem nt_isVal {d : PyData} (h : isVal d = true) : isAt d = true := by
  cases d <;> first | rfl | cases h
theorem nt_isTerm {d : PyData} (h : isTerm d = true) : isAt d = true := by
  rcases Bool.or_eq_true_iff.mp h with h | h
  · exact nt_isVal h
  · exact nt_isOne h
theorem sd_isCond {d : PyData} (h : isCond d = true) : Sd 1 d := by
  unfold isCond at h
  split at h
  · obtain ⟨h1, h2⟩ := He.ba h
    obtain ⟨h2, h3⟩ := He.ba h2
    exact .tup (k := 0) (by simp) (all3 (nt_isOne h1) (nt_isOne h2) (nt_isTerm h3))
  · cases h
theorem chk_atom {z : Str} {ps : List PyData} (h : chk z ps = true) : ∀ x, x ∈ ps → isAt x = true := by
  unfold chk at h
  split at h
  · by_cases hl : ps.length = 2
    · obtain ⟨a, b, rfl⟩ := len2 hl
      obtain ⟨h1, h2⟩ := He.ba h
      exact all2 (nt_isOne h1) (nt_isVal h2)
    · rw [pSet_len hl] at h; cases h
  · split at h
    · by_cases hl : ps.length = 2
      · obtain ⟨a, b, rfl⟩ := len2 hl
        obtain ⟨h1, h2⟩ := He.ba h
        exact all2 (nt_isOne h1) (nt_isTerm h2)
      · rw [pAdd_len hl] at h; cases h
    · split at h
      · by_cases hl : ps.length = 1
        · obtain ⟨a, rfl⟩ := len1 hl
          refine all1 ?_
          cases a <;> first | rfl | cases h
        · rw [pWait_len hl] at h; cases h
      · split at h
        · by_cases hl : ps.length = 3
          · obtain ⟨a, b, c, rfl⟩ := len3 hl
            obtain ⟨h1, h2⟩ := He.ba h
            obtain ⟨h2, h3⟩ := He.ba h2
            exact all3 (nt_isOne h1) (nt_isTerm h2) (nt_isOne h3)
          · rw [pAsk_len hl] at h; cases h
        · split at h
          · by_cases hl : ps.length = 1
            · obtain ⟨a, rfl⟩ := len1 hl
              refine all1 ?_
              cases a <;> first | rfl | cases h
            · rw [pAns_len hl] at h; cases h
          · by_cases hl : ps.length = 1
            · obtain ⟨a, rfl⟩ := len1 hl
              exact all1 (nt_isTerm h)
            · rw [pTerm_len hl] at h; cases h
theorem sumO_nn : ∀ {l : List (Option Int)} {n : Int}, sumO l = some n → (∀ a, some a ∈ l → 0 ≤ a) → 0 ≤ n ∧ ∀ o, o ∈ l → ∃ a, o = some a ∧ 0 ≤ a ∧ a ≤ n
  | [], n, h, _ => by
    rw [sumO_nil] at h
    cases h
    exact ⟨by decide, fun o ho => by cases ho⟩
  | o :: l, n, h, ha => by
    rw [sumO_cons] at h
    cases o with
    | none => cases h
    | some a =>
      cases q : sumO l with
      | none => rw [q] at h; cases h
      | some b =>
        rw [q] at h
        have h : a + b = n := by injection h
        obtain ⟨hb, hr⟩ := sumO_nn q fun a hm => ha a (List.mem_cons_of_mem _ hm)
        have h0 := ha a (List.mem_cons_self ..)
        refine ⟨by omega, fun o ho => ?_⟩
        rcases List.mem_cons.mp ho with rfl | ho
        · exact ⟨a, rfl, h0, by omega⟩
        · obtain ⟨c, hc, hc0, hcb⟩ := hr o ho
          exact ⟨c, hc, hc0, by omega⟩
theorem sumO_pos : ∀ {l : List (Option Int)} {n : Int}, sumO l = some n → (∀ a, some a ∈ l → 1 ≤ a) → (l.length : Int) ≤ n
  | [], n, h, _ => by
    rw [sumO_nil] at h
    cases h
    exact Int.le_refl _
  | o :: l, n, h, ha => by
    rw [sumO_cons] at h
    cases o with
    | none => cases h
    | some a =>
      cases q : sumO l with
      | none => rw [q] at h; cases h
      | some b =>
        rw [q] at h
        have h : a + b = n := by injection h
        have hr := sumO_pos q fun a hm => ha a (List.mem_cons_of_mem _ hm)
        have h0 := ha a (List.mem_cons_self ..)
        rw [List.length_cons]
        omega
theorem sd_stmt {kind : Str} {cb : PyData → Option Int} {m : Nat} (hm : 1 ≤ m) (hcb : ∀ d n, cb d = some n → 0 ≤ n ∧ (n ≤ 1000 → Sd m d)) {d : PyData} {n : Int} (h : cntStmt kind cb d = some n) : 1 ≤ n ∧ (n ≤ 1000 → Sd (m + 1) d) := by
  unfold cntStmt at h
  split at h
  · rename_i z parts
    split at h
    · unfold cntBlock at h
      split at h
      · rename_i hc
        obtain ⟨hl, hc⟩ := hc
        cases q : sumO ((parts.drop 1).map cb) with
        | none => rw [q] at h; cases h
        | some s =>
          rw [q] at h
          have h : 1 + s = n := by injection h
          obtain ⟨hs0, hs⟩ := sumO_nn q fun a ha => by
            obtain ⟨x, _, e⟩ := List.mem_map.mp ha
            exact (hcb x a e).1
          refine ⟨by omega, fun hn => .tup ?_ fun x hx => ?_⟩
          · rw [List.length_drop] at hl
            have : nBod z ≤ 2 := by unfold nBod; split <;> omega
            rw [List.length_cons]; omega
          · rcases List.mem_cons.mp hx with rfl | hx
            · exact .atom rfl
            · cases parts with
              | nil => cases hx
              | cons p ps =>
                rcases List.mem_cons.mp hx with rfl | hx
                · exact (sd_isCond hc).mono hm
                · obtain ⟨a, e, h0, h1⟩ := hs (cb x) (List.mem_map.mpr ⟨x, hx, rfl⟩)
                  exact (hcb x a e).2 (by omega)
      · cases h
    · split at h
      · rename_i hc
        have h : (1 : Int) = n := by injection h
        obtain ⟨_, hc⟩ := He.ba hc
        refine ⟨by omega, fun _ => .tup ?_ fun x hx => ?_⟩
        · have := (chk_len hc).1
          rw [List.length_cons]; omega
        · rcases List.mem_cons.mp hx with rfl | hx
          · exact .atom rfl
          · exact .atom (chk_atom hc x hx)
      · cases h
  · cases h
theorem sd_body {kind : Str} : ∀ (f : Nat) (d : PyData) (n : Int), cntBody kind f d = some n → 0 ≤ n ∧ (n ≤ 1000 → Sd (2 * f + 1) d)
  | 0, d, n, h => by
    unfold cntBody at h
    split at h
    · have h : (0 : Int) = n := by injection h
      exact ⟨by omega, fun _ => .tup (by simp) fun x hx => by cases hx⟩
    · rename_i q; cases q
    · cases h
  | f + 1, d, n, h => by
    unfold cntBody at h
    split at h
    · rename_i q; cases q
    · rename_i f' ss q
      have q : f = f' := by injection q
      subst q
      have hst := fun x a (e : cntStmt kind (cntBody kind f) x = some a) => sd_stmt (by omega) (sd_body (kind := kind) f) e
      have hp : (ss.length : Int) ≤ n := by
        have := sumO_pos h fun a ha => by
          obtain ⟨x, _, e⟩ := List.mem_map.mp ha
          exact (hst x a e).1
        rw [List.length_map] at this
        exact this
      obtain ⟨h0, h1⟩ := sumO_nn h fun a ha => by
        obtain ⟨x, _, e⟩ := List.mem_map.mp ha
        have := (hst x a e).1
        omega
      refine ⟨h0, fun hn => .tup (by omega) fun x hx => ?_⟩
      obtain ⟨a, e, ha0, ha1⟩ := h1 _ (List.mem_map.mpr ⟨x, hx, rfl⟩)
      exact (hst x a e).2 (by omega)
    · cases h
theorem mem_cut {ds : List PyData} {lo hi : Option Int} {x : PyData} (h : x ∈ cutD ds lo hi) : x ∈ ds := List.mem_of_mem_drop (List.mem_of_mem_take h)
theorem len_cut (ds : List PyData) (lo hi : Option Int) : (cutD ds lo hi).length ≤ ds.length := by
  unfold cutD
  rw [List.length_take, List.length_drop]
  omega
/-! ### no dicts, small depth -/
theorem plainAll_of {ds : List PyData} (h : ∀ x, x ∈ ds → x.plain = true) : PyData.plainAll ds = true := by
  induction ds with
  | nil => rw [PyData.plainAll]
  | cons d ds ih => rw [PyData.plainAll, h d (List.mem_cons_self ..), ih fun x hx => h x (List.mem_cons_of_mem _ hx)]; rfl
theorem depthAll_of {ds : List PyData} {k : Nat} (h : ∀ x, x ∈ ds → x.depth ≤ k) : PyData.depthAll ds ≤ k := by
  induction ds with
  | nil => rw [PyData.depthAll]; omega
  | cons d ds ih =>
    rw [PyData.depthAll]
    have h1 := h d (List.mem_cons_self ..)
    have h2 := ih fun x hx => h x (List.mem_cons_of_mem _ hx)
    omega
/-- no dict, at most so deep -/
structure Pn (k : Nat) (d : PyData) : Prop where
  p : d.plain = true
  d : d.depth ≤ k
theorem Pn.at {k : Nat} {d : PyData} (h : isAt d = true) : Pn k d := by
  cases d <;> first | exact ⟨by rw [PyData.plain], by rw [PyData.depth]; omega⟩ | cases h
theorem Pn.mono {k m : Nat} {d : PyData} (h : Pn k d) (e : k ≤ m) : Pn m d := ⟨h.p, Nat.le_trans h.d e⟩
theorem Pn.tup {k : Nat} {ds : List PyData} (h : ∀ x, x ∈ ds → Pn k x) : Pn (k + 1) (.tuple ds) :=
  ⟨by rw [PyData.plain]; exact plainAll_of fun x hx => (h x hx).p, by rw [PyData.depth]; exact Nat.succ_le_succ (depthAll_of fun x hx => (h x hx).d)⟩
theorem Pn.lst {k : Nat} {ds : List PyData} (h : ∀ x, x ∈ ds → Pn k x) : Pn (k + 1) (.list ds) :=
  ⟨by rw [PyData.plain]; exact plainAll_of fun x hx => (h x hx).p, by rw [PyData.depth]; exact Nat.succ_le_succ (depthAll_of fun x hx => (h x hx).d)⟩
theorem Sd.pn : ∀ {k : Nat} {d : PyData}, Sd k d → Pn k d
  | 0, _, h => .at h
  | k + 1, d, h => by
    rcases h with h | ⟨ds, rfl, hl, ha⟩
    · exact .at h
    · exact .tup fun x hx => (ha x hx).pn

end Nt

namespace Nt
open PySem PySem.Spec PyProof.Rows L2 Evl
/-! ### is_program, over the store -/
open Classical in
noncomputable def m_is_program (φ : Nat) (args : List Vl) (S : Sto) : Out Vl := match args with
  | [x] => match toD 60 S x with
    | some d => if Sm d then .ok (.bl (isProg d)) S else .bad
    | none => .bad
  | _ => .bad
section
variable {P : Program} {w : World} {K : PySem.W.Frag} {mg : Str → Option Value} {base : Heap}
theorem fn_is_program (T : Txt w K mg) : ∃ fd, FunD K "is_program" "is_program" (defArgs s_is_program) (defBody s_is_program) (defScope s_is_program) [] [] (He.ga K "is_program") fd ∧ FnOk P w K mg base CX0 17 (He.ga K "is_program") fd ["thing"] (spProg K) := by
  have D_count_body := ok_count_body (P := P) (base := base) T 4
  obtain ⟨fd, F⟩ := T.F_is_program
  refine ⟨fd, F, F.ok sc_is_program (fun vs H Q E h => ?_) (fun cdv A outer s H vs Q E hr h => ?_)⟩
  · obtain ⟨_, _, rfl, _⟩ := h; rfl
  · obtain ⟨v, d, rfl, hd, hs, kk⟩ := h
    refine ⟨_, (PSs.nox (pss_cons (ps_if (PW.pt (pw_or (pt_not (pt_val (pe_callB call_isi (by rfl) T.m_isinstance boot_isinstance (pa_cons (pv 0) (pa_cons (pe_bltn (v := .ty "tuple") rfl T.m_tuple boot_tuple rfl) pa_nil))))) (pw_or (pt_cmpR op_ne (pe_callB call_len_seq (by rfl) T.m_len boot_len (pa_cons (pv 0) pa_nil)) pe_int (nomark _)) (pw_or (pt_not (pt_val (pe_callB call_isi (by rfl) T.m_isinstance boot_isinstance (pa_cons (pe_ix ix_tup (pv 0) pe_int (fun _ _ => rfl)) (pa_cons (pe_bltn (v := .ty "str") rfl T.m_str boot_str rfl) pa_nil))))) (pw_or1 (pt_cmpR (op_ni_tab T.d_WORDS) (pe_ix ix_tup (pv 0) pe_int (fun _ _ => rfl)) (pe_gref rfl T.g_WORDS) (by rfl))))))) (pss_one (ps_ret pe_bl)) pss_nil)
      (pss_cons (ps_set (i := 1) sc_is_program.nd rfl (Or.inl rfl) (pe_callD D_count_body (hr.mono (by omega)) rfl pass0 (pa_cons (pe_ix ix_tup (pv 0) pe_int (fun _ _ => rfl)) (pa_cons (pe_ix ix_tup (pv 0) pe_int (fun _ _ => rfl)) (pa_cons pe_int pa_nil)))))
      (pss_one (ps_ret (pe_and (pe_cmpR op_notN (pv 1) pe_non (nomark _)) (pe_one (pe_cmpR op_le (pv 1) (pe_gint rfl T.c_MOST_STATEMENTS) (nomark _))))))))), ?_⟩
    cases ht : isTup d with
    | false =>
      refine q_when (b := true) (et_or (b := true) (et_not (et_B (ev_cb (ea_cons (ev_var rfl) (ea_cons ev_c ea_nil)) (isi_d hd ((kit_tup d).trans (congrArg some ht)))))) fun q => by cases q) (fun _ H1 e => s_ret ev_c fun H2 e2 => ?_) fun q => by cases q
      have := kk H2 (e.trans e2)
      rw [isProg_not ht] at this
      exact this
    | true =>
      obtain ⟨a, xs, ds, rfl, rfl, hx, ha⟩ := dp_tupI hd ht
      obtain ⟨hsz, hsm⟩ := hs.tupI
      have hn := dpAll_len ha
      by_cases hl : xs.length = 2
      · obtain ⟨x0, x1, rfl⟩ := len2 hl
        obtain ⟨d0, d1, rfl, h0, h1⟩ := dp2 ha
        have hl0 : Ev (tOp rNe (tCB (rLenS K) (tCons (tVar 0) tNil)) (tC (.int 2))) [some (.ref a), none] H (.bl false) := ev_op (ev_cb (ea_cons (ev_var rfl) ea_nil) (rc_lenT hx)) ev_c (rv_ne rfl)
        cases hst : isStr d0 with
        | false =>
          refine q_when (b := true) (et_is (et_or (b := true) (et_not (et_B (ev_cb (ea_cons (ev_var rfl) (ea_cons ev_c ea_nil)) (isi_d hd (kit_tup _))))) fun _ => et_or (a := false) (b := true) (et_test hl0) fun _ => et_or (a := true) (b := true) (et_not (et_B (ev_cb (ea_cons (ev_op (ev_var rfl) ev_c (rv_ixT hx at0)) (ea_cons ev_c ea_nil)) (isi_d h0 ((kit_str d0).trans (congrArg some hst)))))) fun q => by cases q) rfl) (fun _ H1 e => s_ret ev_c fun H2 e2 => ?_) fun q => by cases q
          have := kk H2 (e.trans e2)
          rw [isProg_str hst] at this
          exact this
        | true =>
          obtain ⟨z, rfl, rfl⟩ := dp_strI h0 hst
          refine q_when (b := !(z == "teller" || z == "collector")) (et_is (et_or (b := !(z == "teller" || z == "collector")) (et_not (et_B (ev_cb (ea_cons (ev_var rfl) (ea_cons ev_c ea_nil)) (isi_d hd (kit_tup _))))) fun _ => et_or (a := false) (b := !(z == "teller" || z == "collector")) (et_test hl0) fun _ => et_or (a := false) (b := !(z == "teller" || z == "collector")) (et_not (et_B (ev_cb (ea_cons (ev_op (ev_var rfl) ev_c (rv_ixT hx at0)) (ea_cons ev_c ea_nil)) (isi_d h0 (kit_str _))))) fun _ => et_is (et_test (ev_op (ev_op (ev_var rfl) ev_c (rv_ixT hx at0)) ev_c rv_niTab)) (congrArg not (kind_is K z))) rfl) ?_ ?_
          · intro hb H1 e
            refine s_ret ev_c fun H2 e2 => ?_
            have := kk H2 (e.trans e2)
            have hz : (z == "teller" || z == "collector") = false := by
              cases q : (z == "teller" || z == "collector") with
              | false => rfl
              | true => rw [q] at hb; cases hb
            have hp : isProg (.tuple [.str z, d1]) = false := by
              show ((z == "teller" || z == "collector") && _) = false
              rw [hz]; rfl
            rw [hp] at this
            exact this
          · intro hb H1 e
            have hz : (z == "teller" || z == "collector") = true := by
              cases q : (z == "teller" || z == "collector") with
              | true => rfl
              | false => rw [q] at hb; cases hb
            have hkd : okKind z := by
              rcases Bool.or_eq_true_iff.mp hz with q | q
              · exact .inl (eq_of_beq q)
              · exact .inr (eq_of_beq q)
            have hx1 := ex_t e hx
            refine q_asg (ev_call (ea_cons (ev_op (ev_var rfl) ev_c (rv_ixT hx1 at0)) (ea_cons (ev_op (ev_var rfl) ev_c (rv_ixT hx1 at1)) (ea_cons ev_c ea_nil))) (spvBod (f := 4) hkd (dp_mono e h1) (hsm _ (by simp)))) fun H2 e2 => ?_
            have hp : isProg (.tuple [.str z, d1]) = (match cntBody z 4 d1 with
                | some n => decide (n ≤ 24)
                | none => false) := by
              show ((z == "teller" || z == "collector") && _) = _
              rw [hz, Bool.true_and]
              all_goals rfl
            rw [hp] at kk
            cases hc : cntBody z 4 d1 with
            | none =>
              rw [hc] at kk
              exact s_ret (ev_andV (a := false) (b := false) (ev_op (ev_var rfl) ev_c rv_notN) fun q => by cases q) fun H3 e3 => kk H3 (e.trans (e2.trans e3))
            | some n =>
              rw [hc] at kk
              exact s_ret (ev_andV (a := true) (ev_op (ev_var rfl) ev_c rv_notN) fun _ => ev_op (ev_var rfl) ev_c rv_le) fun H3 e3 => kk H3 (e.trans (e2.trans e3))
      · refine q_when (b := true) (et_or (b := true) (et_not (et_B (ev_cb (ea_cons (ev_var rfl) (ea_cons ev_c ea_nil)) (isi_d hd (kit_tup _))))) fun _ => et_or (a := true) (b := true) (et_is (et_test (ev_op (ev_cb (ea_cons (ev_var rfl) ea_nil) (rc_lenT hx)) ev_c (rv_ne rfl))) ((int_ne xs.length 2).trans (by rw [decide_eq_false hl]; rfl))) fun q => by cases q) (fun _ H1 e => s_ret ev_c fun H2 e2 => ?_) fun q => by cases q
        have := kk H2 (e.trans e2)
        rw [isProg_len (by rw [← hn]; exact hl)] at this
        exact this
theorem fk_is_program (T : Txt w K mg) (φ : Nat) : FnM NN P w K mg base CX0 17 (He.ga K "is_program") (FunD K "is_program" "is_program" (defArgs s_is_program) (defBody s_is_program) (defScope s_is_program) [] [] (He.ga K "is_program")) ["thing"] (m_is_program φ) := by
  obtain ⟨fd, F, G⟩ := fn_is_program (P := P) (base := base) T
  refine ⟨fd, F, F.kp, G.imp fun vs H Q E h => ?_⟩
  obtain ⟨m, S, args, hl, s, r, h⟩ := h
  unfold m_is_program at h
  split at h
  · rename_i x
    split at h
    · rename_i d hd
      split at h
      · rename_i hs
        obtain ⟨v, rfl, rv⟩ := r.one
        exact ⟨v, d, rfl, toD_dp s _ _ _ _ hd rv, hs, fun H' e => h.to (Ext.same e) (s.same e) (.bl _)⟩
      · exact h.elim
    · exact h.elim
  · exact h.elim
end

end Nt

namespace Nt
open PySem PySem.Spec PyProof.Rows L2 Evl
def tb_WORDS : List (Str × Vl) := [("teller", (.ktp [(.str "set"), (.str "add"), (.str "wait"), (.str "ask"), (.str "answer")])), ("collector", (.ktp [(.str "set"), (.str "add"), (.str "wait"), (.str "grow"), (.str "list")]))]
theorem tr_WORDS {w : World} {K : PySem.W.Frag} {mg : Str → Option Value} (T : Txt w K mg) : TR NN K tb_WORDS [("teller", .ref (tabAt "WORDS" "teller" K)), ("collector", .ref (tabAt "WORDS" "collector" K))] := (.cons (fun _ _ => (.ktp (T.t_WORDS_teller _) (.cons (.str _) (.cons (.str _) (.cons (.str _) (.cons (.str _) (.cons (.str _) .nil))))))) (.cons (fun _ _ => (.ktp (T.t_WORDS_collector _) (.cons (.str _) (.cons (.str _) (.cons (.str _) (.cons (.str _) (.cons (.str _) .nil))))))) .nil))
def tb_BODIES : List (Str × Vl) := [("if", (.int 2)), ("while", (.int 1))]
theorem tr_BODIES {w : World} {K : PySem.W.Frag} {mg : Str → Option Value} (T : Txt w K mg) : TR NN K tb_BODIES [("if", .int 2), ("while", .int 1)] := (.cons (fun _ _ => (.int _)) (.cons (fun _ _ => (.int _)) .nil))
def tb_CHECKS : List (Str × Vl) := [("set", (.fn 3)), ("add", (.fn 4)), ("wait", (.fn 5)), ("ask", (.fn 6)), ("answer", (.fn 7)), ("grow", (.fn 8)), ("list", (.fn 8))]
theorem tr_CHECKS {w : World} {K : PySem.W.Frag} {mg : Str → Option Value} (T : Txt w K mg) : TR NN K tb_CHECKS [("set", .ref (He.ga K "is_set")), ("add", .ref (He.ga K "is_add")), ("wait", .ref (He.ga K "is_wait")), ("ask", .ref (He.ga K "is_ask")), ("answer", .ref (He.ga K "is_answer")), ("grow", .ref (He.ga K "is_one_term")), ("list", .ref (He.ga K "is_one_term"))] := (.cons (fun _ _ => (.fn 3)) (.cons (fun _ _ => (.fn 4)) (.cons (fun _ _ => (.fn 5)) (.cons (fun _ _ => (.fn 6)) (.cons (fun _ _ => (.fn 7)) (.cons (fun _ _ => (.fn 8)) (.cons (fun _ _ => (.fn 8)) .nil)))))))
def tbm_HouseError : List (Nat × Bool) := [(9, true), (10, true), (12, true), (13, true), (47, false), (49, false)]
theorem mt_HouseError {w : World} {K : PySem.W.Frag} {mg : Str → Option Value} (T : Txt w K mg) : LkA (fun c b => PySem.W.exmOne K (.ref (He.ga K (NN.g c))) (.ref (He.ga K "HouseError")) = some b) tbm_HouseError := (.cons T.u_HouseError_HouseError.m (.cons T.u_BadProgram_HouseError.m (.cons T.u_BadSide_HouseError.m (.cons T.u_BadSteps_HouseError.m (.cons T.u_NoMachine_HouseError.m (.cons T.u_Busy_HouseError.m .nil))))))
theorem xc_HouseError {w : World} {K : PySem.W.Frag} {mg : Str → Option Value} (T : Txt w K mg) : LkA (fun c _ => ExcC K (He.ga K (NN.g c))) tbm_HouseError := (.cons T.x_HouseError.c (.cons T.x_BadProgram.c (.cons T.x_BadSide.c (.cons T.x_BadSteps.c (.cons T.ox_NoMachine.c (.cons T.x_Busy.c .nil))))))
def etab1 : List ((Nat × Nat) × Bool) := ([((9, 9), true), ((9, 10), false), ((9, 12), false), ((9, 13), false), ((9, 47), false), ((9, 49), false), ((10, 9), true), ((10, 10), true), ((10, 12), false), ((10, 13), false), ((10, 47), false), ((10, 49), false), ((12, 9), true), ((12, 10), false), ((12, 12), true), ((12, 13), false), ((12, 47), false), ((12, 49), false), ((13, 9), true), ((13, 10), false), ((13, 12), false), ((13, 13), true), ((13, 47), false), ((13, 49), false), ((47, 9), false), ((47, 10), false), ((47, 12), false), ((47, 13), false), ((47, 47), true), ((47, 49), false)] : List ((Nat × Nat) × Bool)) ++ ([((49, 9), false), ((49, 10), false), ((49, 12), false), ((49, 13), false), ((49, 47), false), ((49, 49), true)] : List ((Nat × Nat) × Bool))
theorem et_1 {w : World} {K : PySem.W.Frag} {mg : Str → Option Value} (T : Txt w K mg) : LkA (fun p b => PySem.W.kitOne K (.ref (He.ga K (NN.g p.1))) (.ref (He.ga K (NN.g p.2))) = some b) etab1 := (.cons T.u_HouseError_HouseError.i (.cons T.u_HouseError_BadProgram.i (.cons T.u_HouseError_BadSide.i (.cons T.u_HouseError_BadSteps.i (.cons T.u_HouseError_NoMachine.i (.cons T.u_HouseError_Busy.i (.cons T.u_BadProgram_HouseError.i (.cons T.u_BadProgram_BadProgram.i (.cons T.u_BadProgram_BadSide.i (.cons T.u_BadProgram_BadSteps.i (.cons T.u_BadProgram_NoMachine.i (.cons T.u_BadProgram_Busy.i (.cons T.u_BadSide_HouseError.i (.cons T.u_BadSide_BadProgram.i (.cons T.u_BadSide_BadSide.i (.cons T.u_BadSide_BadSteps.i (.cons T.u_BadSide_NoMachine.i (.cons T.u_BadSide_Busy.i (.cons T.u_BadSteps_HouseError.i (.cons T.u_BadSteps_BadProgram.i (.cons T.u_BadSteps_BadSide.i (.cons T.u_BadSteps_BadSteps.i (.cons T.u_BadSteps_NoMachine.i (.cons T.u_BadSteps_Busy.i (.cons T.u_NoMachine_HouseError.i (.cons T.u_NoMachine_BadProgram.i (.cons T.u_NoMachine_BadSide.i (.cons T.u_NoMachine_BadSteps.i (.cons T.u_NoMachine_NoMachine.i (.cons T.u_NoMachine_Busy.i (.cons T.u_Busy_HouseError.i (.cons T.u_Busy_BadProgram.i (.cons T.u_Busy_BadSide.i (.cons T.u_Busy_BadSteps.i (.cons T.u_Busy_NoMachine.i (.cons T.u_Busy_Busy.i .nil))))))))))))))))))))))))))))))))))))
def etab2 : List ((Nat × String) × Bool) := [((9, "ValueError"), true), ((10, "ValueError"), true), ((12, "ValueError"), true), ((13, "ValueError"), true), ((47, "ValueError"), false), ((49, "ValueError"), false)]
theorem et_2 {w : World} {K : PySem.W.Frag} {mg : Str → Option Value} (T : Txt w K mg) : LkA (fun p b => PySem.W.kitOne K (.ref (He.ga K (NN.g p.1))) (.type p.2) = some b) etab2 := (.cons T.r_HouseError_ValueError (.cons T.r_BadProgram_ValueError (.cons T.r_BadSide_ValueError (.cons T.r_BadSteps_ValueError (.cons T.r_NoMachine_ValueError (.cons T.r_Busy_ValueError .nil))))))
theorem fx_NoMachine {P : Program} {w : World} {K : PySem.W.Frag} {mg : Str → Option Value} {base : Heap} (T : Txt w K mg) : FnXI P w K mg base 1 (He.ma K (He.ga K "NoMachine") "__init__") (FunD K "__init__" "NoMachine.__init__" (defArgs s_NoMachine___init__) (defBody s_NoMachine___init__) (defScope s_NoMachine___init__) [] [] (He.ma K (He.ga K "NoMachine") "__init__")) ["self", "number"] (He.ga K "NoMachine") "number" okA :=
  fx_mk (k := 0) T.F_NoMachine___init__ sc_NoMachine___init__ (fun cdv A outer s H E hr => pss_ini (ps_expr (pe_xiT (B := "LookupError") PySem.F.excBase_LookupError T.ox_NoMachine.o rfl T.m_LookupError PyProof.Rows.Boot.«LookupError» (by kernel_rfl) (by decide +kernel) (oxVal_ok T.xi_NoMachine) (by decide +kernel) (pa_cons (pe_var (i := 0) rfl (by first | exact Or.inl rfl | exact Or.inr (Or.inl rfl) | exact Or.inr (Or.inr rfl))) (pa_cons pe_str pa_nil)) (by decide) (by decide))) (ps_xst PySem.F.store_LookupError T.ox_NoMachine.o T.ox_NoMachine.n (pe_var (i := 0) rfl (by first | exact Or.inl rfl | exact Or.inr (Or.inl rfl) | exact Or.inr (Or.inr rfl))) (pe_var (i := 1) rfl (by first | exact Or.inl rfl | exact Or.inr (Or.inl rfl) | exact Or.inr (Or.inr rfl))))) hte_c
noncomputable def b__law_purse (φ : Nat) : ZS := (zSeq (zAsg (xIf (yCmp vLt (xVar 1) (xCB vLen (aCons (xVar 0) aNil))) (xOp vIx (xVar 0) (xVar 1)) (xC (.int 0))) (gmName 2))
    (zSeq (zAsg (xCB vAbs (aCons (xVar 2) aNil)) (gmName 3))
    (zSeq (zRet (xLst (aCons (xOp vMul (xVar 3) (xCB vInt (aCons (xOp vGe (xVar 3) (xOp vPow (xC (.int 10)) (xC (.int 18)))) aNil))) (aCons (xOp vMod (xOp vAdd (xOp vAdd (xOp vMod (xVar 2) (xC (.int 2147483647))) (xOp vMul (xC (.int 7919)) (xVar 1))) (xC (.int 17))) (xC (.int 2147483647))) (aCons (xC (.int 0)) aNil)))))
    zNil)))
noncomputable def m__law_purse (φ : Nat) : List Vl → Sto → Out Vl := runB0 4 (b__law_purse φ)
theorem fk__law_purse {P : Program} {w : World} {K : PySem.W.Frag} {mg : Str → Option Value} {base : Heap} (T : Txt w K mg) (φ : Nat) : FnM NN P w K mg base CX0 1 (He.ga K "_law_purse") (FunD K "_law_purse" "_law_purse" (defArgs s__law_purse) (defBody s__law_purse) (defScope s__law_purse) [] [] (He.ga K "_law_purse")) ["_law_script", "_law_at"] (m__law_purse φ) :=
  fn_mk0 (k := 0) (b := b__law_purse φ) (L := N__law_purse) T.F__law_purse sc__law_purse fun cdv A outer s H E hr => SSs.nox (sss_cons (ss_set (i := 2) sc__law_purse.nd rfl (by first | exact Or.inl rfl | exact Or.inr rfl) (se_if (st_cmp opm_lt (se_var (i := 1) rfl (by first | exact Or.inl rfl | exact Or.inr (Or.inl rfl) | exact Or.inr (Or.inr rfl))) (se_callB cm_len rfl T.m_len boot_len (sa_cons (se_var (i := 0) rfl (by first | exact Or.inl rfl | exact Or.inr (Or.inl rfl) | exact Or.inr (Or.inr rfl))) sa_nil)) (nomark _)) (se_ix (ixm hr.units) (se_var (i := 0) rfl (by first | exact Or.inl rfl | exact Or.inr (Or.inl rfl) | exact Or.inr (Or.inr rfl))) (se_var (i := 1) rfl (by first | exact Or.inl rfl | exact Or.inr (Or.inl rfl) | exact Or.inr (Or.inr rfl))) (fun _ _ => rfl)) se_int))
    (sss_cons (ss_set (i := 3) sc__law_purse.nd rfl (by first | exact Or.inl rfl | exact Or.inr rfl) (se_callB cm_abs rfl T.m_abs boot_abs (sa_cons (se_var (i := 2) rfl (by first | exact Or.inl rfl | exact Or.inr (Or.inl rfl) | exact Or.inr (Or.inr rfl))) sa_nil)))
    (sss_cons (ss_ret (se_lst (sa_cons (se_op opm_mul (se_var (i := 3) rfl (by first | exact Or.inl rfl | exact Or.inr (Or.inl rfl) | exact Or.inr (Or.inr rfl))) (se_callTy cm_int rfl T.m_int boot_int (sa_cons (se_cmp opm_ge (se_var (i := 3) rfl (by first | exact Or.inl rfl | exact Or.inr (Or.inl rfl) | exact Or.inr (Or.inr rfl))) (se_op opm_pow se_int se_int) (nomark _)) sa_nil))) (sa_cons (se_op opm_mod (se_op opm_add (se_op opm_add (se_op opm_mod (se_var (i := 2) rfl (by first | exact Or.inl rfl | exact Or.inr (Or.inl rfl) | exact Or.inr (Or.inr rfl))) se_int) (se_op opm_mul se_int (se_var (i := 1) rfl (by first | exact Or.inl rfl | exact Or.inr (Or.inl rfl) | exact Or.inr (Or.inr rfl))))) se_int) se_int) (sa_cons se_int sa_nil)))))
    sss_nil)))
noncomputable def t1__law_take (φ : Nat)  : XT := (yCmp vLt (xVar 4) (xVar 1))
noncomputable def l1__law_take (φ : Nat)  : ZS := (zSeq (zAsg (xOp vAdd (xOp vIx (xVar 0) (xC (.int 2))) (xC (.int 1))) (gmSub (xVar 0) (xC (.int 2)) vSetI))
    (zSeq (zAsg (xOp vMod (xOp vAdd (xOp vAdd (xOp vMul (xOp vIx (xVar 0) (xC (.int 1))) (xC (.int 48271))) (xOp vMul (xOp vMul (xC (.int 31)) (xOp vIx (xVar 0) (xC (.int 2)))) (xOp vIx (xVar 0) (xC (.int 2))))) (xC (.int 11))) (xC (.int 2147483647))) (gmSub (xVar 0) (xC (.int 1)) vSetI))
    (zSeq (zAsg (xOp vAdd (xOp vMul (xVar 3) (xC (.int 16777216))) (xOp vMod (xOp vDiv (xOp vMod (xOp vMul (xOp vIx (xVar 0) (xC (.int 1))) (xOp vAdd (xOp vDiv (xOp vIx (xVar 0) (xC (.int 1))) (xC (.int 65536))) (xC (.int 7)))) (xC (.int 2147483629))) (xC (.int 64))) (xC (.int 16777216)))) (gmName 3))
    (zSeq (zAsg (xOp vMul (xVar 4) (xC (.int 16777216))) (gmName 4))
    zNil))))
noncomputable def b__law_take (φ : Nat) : ZS := (zSeq (zIf (yCmp vGt (xOp vIx (xVar 0) (xC (.int 0))) (xC (.int 0))) (zSeq (zAsg (xOp vMod (xOp vIx (xVar 0) (xC (.int 0))) (xVar 1)) (gmName 2))
    (zSeq (zAsg (xOp vDiv (xOp vIx (xVar 0) (xC (.int 0))) (xVar 1)) (gmSub (xVar 0) (xC (.int 0)) vSetI))
    (zSeq (zRet (xVar 2))
    zNil))) zNil)
    (zSeq (zAsg (xTup (aCons (xC (.int 0)) (aCons (xC (.int 1)) aNil))) (gmTup 2 (gmsCons (gmName 3) (gmsCons (gmName 4) gmsNil))))
    (zSeq (zWhile φ (t1__law_take φ) (l1__law_take φ))
    (zSeq (zRet (xOp vMod (xVar 3) (xVar 1)))
    zNil))))
noncomputable def m__law_take (φ : Nat) : List Vl → Sto → Out Vl := runB0 5 (b__law_take φ)
theorem fk__law_take {P : Program} {w : World} {K : PySem.W.Frag} {mg : Str → Option Value} {base : Heap} (T : Txt w K mg) (φ : Nat) : FnM NN P w K mg base CX0 1 (He.ga K "_law_take") (FunD K "_law_take" "_law_take" (defArgs s__law_take) (defBody s__law_take) (defScope s__law_take) [] [] (He.ga K "_law_take")) ["_law_bag", "_law_many"] (m__law_take φ) :=
  fn_mk0 (k := 0) (b := b__law_take φ) (L := N__law_take) T.F__law_take sc__law_take fun cdv A outer s H E hr => SSs.nox (sss_cons (ss_if (st_cmp opm_gt (se_ix (ixm hr.units) (se_var (i := 0) rfl (by first | exact Or.inl rfl | exact Or.inr (Or.inl rfl) | exact Or.inr (Or.inr rfl))) se_int (fun _ _ => rfl)) se_int (nomark _)) (sss_cons (ss_set (i := 2) sc__law_take.nd rfl (by first | exact Or.inl rfl | exact Or.inr rfl) (se_op opm_mod (se_ix (ixm hr.units) (se_var (i := 0) rfl (by first | exact Or.inl rfl | exact Or.inr (Or.inl rfl) | exact Or.inr (Or.inr rfl))) se_int (fun _ _ => rfl)) (se_var (i := 1) rfl (by first | exact Or.inl rfl | exact Or.inr (Or.inl rfl) | exact Or.inr (Or.inr rfl)))))
    (sss_cons (ss_asg (se_op opm_div (se_ix (ixm hr.units) (se_var (i := 0) rfl (by first | exact Or.inl rfl | exact Or.inr (Or.inl rfl) | exact Or.inr (Or.inr rfl))) se_int (fun _ _ => rfl)) (se_var (i := 1) rfl (by first | exact Or.inl rfl | exact Or.inr (Or.inl rfl) | exact Or.inr (Or.inr rfl)))) (sg_sub (setm hr.units) (se_var (i := 0) rfl (by first | exact Or.inl rfl | exact Or.inr (Or.inl rfl) | exact Or.inr (Or.inr rfl))) se_int))
    (sss_cons (ss_ret (se_var (i := 2) rfl (by first | exact Or.inl rfl | exact Or.inr (Or.inl rfl) | exact Or.inr (Or.inr rfl))))
    sss_nil))) sss_nil)
    (sss_cons (ss_asg (se_tup (sa_cons se_int (sa_cons se_int sa_nil))) (sg_tup (n := 2) rfl (sgs_cons (sg_name (i := 3) sc__law_take.nd rfl (by first | exact Or.inl rfl | exact Or.inr rfl)) (sgs_cons (sg_name (i := 4) sc__law_take.nd rfl (by first | exact Or.inl rfl | exact Or.inr rfl)) sgs_nil))))
    (sss_cons (ss_while φ PassesOwn.never (st_cmp opm_lt (se_var (i := 4) rfl (by first | exact Or.inl rfl | exact Or.inr (Or.inl rfl) | exact Or.inr (Or.inr rfl))) (se_var (i := 1) rfl (by first | exact Or.inl rfl | exact Or.inr (Or.inl rfl) | exact Or.inr (Or.inr rfl))) (nomark _)) (sss_cons (ss_asg (se_op opm_add (se_ix (ixm hr.units) (se_var (i := 0) rfl (by first | exact Or.inl rfl | exact Or.inr (Or.inl rfl) | exact Or.inr (Or.inr rfl))) se_int (fun _ _ => rfl)) se_int) (sg_sub (setm hr.units) (se_var (i := 0) rfl (by first | exact Or.inl rfl | exact Or.inr (Or.inl rfl) | exact Or.inr (Or.inr rfl))) se_int))
    (sss_cons (ss_asg (se_op opm_mod (se_op opm_add (se_op opm_add (se_op opm_mul (se_ix (ixm hr.units) (se_var (i := 0) rfl (by first | exact Or.inl rfl | exact Or.inr (Or.inl rfl) | exact Or.inr (Or.inr rfl))) se_int (fun _ _ => rfl)) se_int) (se_op opm_mul (se_op opm_mul se_int (se_ix (ixm hr.units) (se_var (i := 0) rfl (by first | exact Or.inl rfl | exact Or.inr (Or.inl rfl) | exact Or.inr (Or.inr rfl))) se_int (fun _ _ => rfl))) (se_ix (ixm hr.units) (se_var (i := 0) rfl (by first | exact Or.inl rfl | exact Or.inr (Or.inl rfl) | exact Or.inr (Or.inr rfl))) se_int (fun _ _ => rfl)))) se_int) se_int) (sg_sub (setm hr.units) (se_var (i := 0) rfl (by first | exact Or.inl rfl | exact Or.inr (Or.inl rfl) | exact Or.inr (Or.inr rfl))) se_int))
    (sss_cons (ss_set (i := 3) sc__law_take.nd rfl (by first | exact Or.inl rfl | exact Or.inr rfl) (se_op opm_add (se_op opm_mul (se_var (i := 3) rfl (by first | exact Or.inl rfl | exact Or.inr (Or.inl rfl) | exact Or.inr (Or.inr rfl))) se_int) (se_op opm_mod (se_op opm_div (se_op opm_mod (se_op opm_mul (se_ix (ixm hr.units) (se_var (i := 0) rfl (by first | exact Or.inl rfl | exact Or.inr (Or.inl rfl) | exact Or.inr (Or.inr rfl))) se_int (fun _ _ => rfl)) (se_op opm_add (se_op opm_div (se_ix (ixm hr.units) (se_var (i := 0) rfl (by first | exact Or.inl rfl | exact Or.inr (Or.inl rfl) | exact Or.inr (Or.inr rfl))) se_int (fun _ _ => rfl)) se_int) se_int)) se_int) se_int) se_int)))
    (sss_cons (ss_set (i := 4) sc__law_take.nd rfl (by first | exact Or.inl rfl | exact Or.inr rfl) (se_op opm_mul (se_var (i := 4) rfl (by first | exact Or.inl rfl | exact Or.inr (Or.inl rfl) | exact Or.inr (Or.inr rfl))) se_int))
    sss_nil)))))
    (sss_cons (ss_ret (se_op opm_mod (se_var (i := 3) rfl (by first | exact Or.inl rfl | exact Or.inr (Or.inl rfl) | exact Or.inr (Or.inr rfl))) (se_var (i := 1) rfl (by first | exact Or.inl rfl | exact Or.inr (Or.inl rfl) | exact Or.inr (Or.inr rfl)))))
    sss_nil))))
noncomputable def l1_most_acts (φ : Nat)  : ZS := (zSeq (zDrop (xBM "list" mAppend (xVar 1) (aCons (xIf (yCmp vEq (xVar 2) (xC (.str "teller"))) (xOp vAdd (xC (.int 1)) (xCB vSum (aCons (xVar 1) aNil))) (xC (.int 1))) aNil)))
    zNil)
noncomputable def b_most_acts (φ : Nat) : ZS := (zSeq (zAsg (xLst aNil) (gmName 1))
    (zSeq (zFor (iAny (xVar 0)) (gmName 2) (l1_most_acts φ))
    (zSeq (zRet (xVar 1))
    zNil)))
noncomputable def m_most_acts (φ : Nat) : List Vl → Sto → Out Vl := runB0 3 (b_most_acts φ)
theorem fk_most_acts {P : Program} {w : World} {K : PySem.W.Frag} {mg : Str → Option Value} {base : Heap} (T : Txt w K mg) (φ : Nat) : FnM NN P w K mg base CX0 1 (He.ga K "most_acts") (FunD K "most_acts" "most_acts" (defArgs s_most_acts) (defBody s_most_acts) (defScope s_most_acts) [] [] (He.ga K "most_acts")) ["kinds"] (m_most_acts φ) :=
  fn_mk0 (k := 0) (b := b_most_acts φ) (L := N_most_acts) T.F_most_acts sc_most_acts fun cdv A outer s H E hr => SSs.nox (sss_cons (ss_set (i := 1) sc_most_acts.nd rfl (by first | exact Or.inl rfl | exact Or.inr rfl) (se_lst sa_nil))
    (sss_cons (ss_for PassesOwn.never rfl (si_any (se_var (i := 0) rfl (by first | exact Or.inl rfl | exact Or.inr (Or.inl rfl) | exact Or.inr (Or.inr rfl)))) (sg_name (i := 2) sc_most_acts.nd rfl (by first | exact Or.inl rfl | exact Or.inr rfl)) (sss_cons (ss_expr (se_bm mm_append PySem.F.plainAttrs_list PySem.F.slot_list_append PySem.F.type_list_append (se_var (i := 1) rfl (by first | exact Or.inl rfl | exact Or.inr (Or.inl rfl) | exact Or.inr (Or.inr rfl))) (sa_cons (se_if (st_cmp (opm_eq hr.units) (se_var (i := 2) rfl (by first | exact Or.inl rfl | exact Or.inr (Or.inl rfl) | exact Or.inr (Or.inr rfl))) se_str (nomark _)) (se_op opm_add se_int (se_callB (cm_sum rfl) rfl T.m_sum boot_sum (sa_cons (se_var (i := 1) rfl (by first | exact Or.inl rfl | exact Or.inr (Or.inl rfl) | exact Or.inr (Or.inr rfl))) sa_nil))) se_int) sa_nil)))
    sss_nil))
    (sss_cons (ss_ret (se_var (i := 1) rfl (by first | exact Or.inl rfl | exact Or.inr (Or.inl rfl) | exact Or.inr (Or.inr rfl))))
    sss_nil)))
noncomputable def b__law_alike (φ : Nat) : ZS := (zSeq (zRet (xOp vEq (xCB vRepr (aCons (xVar 0) aNil)) (xCB vRepr (aCons (xVar 1) aNil))))
    zNil)
noncomputable def m__law_alike (φ : Nat) : List Vl → Sto → Out Vl := runB0 2 (b__law_alike φ)
theorem fk__law_alike {P : Program} {w : World} {K : PySem.W.Frag} {mg : Str → Option Value} {base : Heap} (T : Txt w K mg) (φ : Nat) : FnMG NN P w K mg base CX0 1 (He.ga K "_law_alike") (FunD K "_law_alike" "_law_alike" (defArgs s__law_alike) (defBody s__law_alike) (defScope s__law_alike) [] [] (He.ga K "_law_alike")) ["_law_found", "_law_due"] (m__law_alike φ) :=
  fn_mk0G (k := 0) (b := b__law_alike φ) (L := N__law_alike) T.F__law_alike sc__law_alike fun cdv A outer s H E hgd hr => SSs.nox (sss_cons (ss_ret (se_cmp (opm_eq hr.units) (se_callB (cm_repr hgd hr.units) rfl T.m_repr boot_repr (sa_cons (se_var (i := 0) rfl (by first | exact Or.inl rfl | exact Or.inr (Or.inl rfl) | exact Or.inr (Or.inr rfl))) sa_nil)) (se_callB (cm_repr hgd hr.units) rfl T.m_repr boot_repr (sa_cons (se_var (i := 1) rfl (by first | exact Or.inl rfl | exact Or.inr (Or.inl rfl) | exact Or.inr (Or.inr rfl))) sa_nil)) (nomark _)))
    sss_nil)
noncomputable def b_State___init__ (φ : Nat) : ZS := (zSeq (zAsg2 (xC (.int 0)) (gmFld 37 [58] (xVar 0)) (gmFld 38 [58] (xVar 0)))
    (zSeq (zAsg (xDisp (pCons (xC (.str "left")) (xLst aNil) (pCons (xC (.str "right")) (xLst aNil) pNil))) (gmFld 39 [58] (xVar 0)))
    (zSeq (zAsg (xLst aNil) (gmFld 40 [58] (xVar 0)))
    (zSeq (zAsg (xUn vNeg (xC (.int 1))) (gmFld 41 [58] (xVar 0)))
    zNil))))
noncomputable def m_State___init__ (φ : Nat) : List Vl → Sto → Out Vl := runB0 1 (b_State___init__ φ)
theorem fk_State___init__ {P : Program} {w : World} {K : PySem.W.Frag} {mg : Str → Option Value} {base : Heap} (T : Txt w K mg) (φ : Nat) : FnM NN P w K mg base CX0 1 (He.ma K (He.ga K "State") "__init__") (FunD K "__init__" "State.__init__" (defArgs s_State___init__) (defBody s_State___init__) (defScope s_State___init__) [] [] (He.ma K (He.ga K "State") "__init__")) ["self"] (m_State___init__ φ) :=
  fn_mk0 (k := 0) (b := b_State___init__ φ) (L := N_State___init__) T.F_State___init__ sc_State___init__ fun cdv A outer s H E hr => SSs.nox (sss_cons (ss_asg2 se_int (sg_fld (N := NN) 37 (.cons T.cl_State T.na_State_now .nil) (se_var (i := 0) rfl (by first | exact Or.inl rfl | exact Or.inr (Or.inl rfl) | exact Or.inr (Or.inr rfl)))) (sg_fld (N := NN) 38 (.cons T.cl_State T.na_State_next_number .nil) (se_var (i := 0) rfl (by first | exact Or.inl rfl | exact Or.inr (Or.inl rfl) | exact Or.inr (Or.inr rfl)))))
    (sss_cons (ss_fld (N := NN) 39 (.cons T.cl_State T.na_State_sets .nil) (se_var (i := 0) rfl (by first | exact Or.inl rfl | exact Or.inr (Or.inl rfl) | exact Or.inr (Or.inr rfl))) (se_disp (sp_cons se_str (se_lst sa_nil) (sp_cons se_str (se_lst sa_nil) sp_nil))))
    (sss_cons (ss_fld (N := NN) 40 (.cons T.cl_State T.na_State_machines .nil) (se_var (i := 0) rfl (by first | exact Or.inl rfl | exact Or.inr (Or.inl rfl) | exact Or.inr (Or.inr rfl))) (se_lst sa_nil))
    (sss_cons (ss_fld (N := NN) 41 (.cons T.cl_State T.na_State_greatest .nil) (se_var (i := 0) rfl (by first | exact Or.inl rfl | exact Or.inr (Or.inl rfl) | exact Or.inr (Or.inr rfl))) (se_neg se_int))
    sss_nil))))
theorem bd_State___init___1 {K : PySem.W.Frag} {f : Addr} : Bd NN K (FunD K "__init__" "State.__init__" (defArgs s_State___init__) (defBody s_State___init__) (defScope s_State___init__) [] [] f) ["self"] 1 [] (fun xs _ => xs) := bd_all (fun _ _ _ _ _ _ us hl => match us, hl with | [_], _ => rfl)
noncomputable def b_House___init__ (φ : Nat) : ZS := (zSeq (zAsg (xMake 58 0 1 (fun xs _ => xs) 0 (m_State___init__ φ) (bArgs aNil aNil)) (gmFld 42 [59] (xVar 0)))
    (zSeq (zAsg (xLst aNil) (gmFld 43 [59] (xVar 0)))
    (zSeq (zAsg (xLst aNil) (gmFld 44 [59] (xVar 0)))
    (zSeq (zAsg (xC (.bl false)) (gmFld 45 [59] (xVar 0)))
    zNil))))
noncomputable def m_House___init__ (φ : Nat) : List Vl → Sto → Out Vl := runB0 1 (b_House___init__ φ)
theorem fk_House___init__ {P : Program} {w : World} {K : PySem.W.Frag} {mg : Str → Option Value} {base : Heap} (T : Txt w K mg) (φ : Nat) : FnM NN P w K mg base CX0 3 (He.ma K (He.ga K "House") "__init__") (FunD K "__init__" "House.__init__" (defArgs s_House___init__) (defBody s_House___init__) (defScope s_House___init__) [] [] (He.ma K (He.ga K "House") "__init__")) ["self"] (m_House___init__ φ) :=
  fn_mk0 (k := 2) (b := b_House___init__ φ) (L := N_House___init__) T.F_House___init__ sc_House___init__ fun cdv A outer s H E hr => SSs.nox (sss_cons (ss_fld (N := NN) 42 (.cons T.cl_House T.na_House_standing .nil) (se_var (i := 0) rfl (by first | exact Or.inl rfl | exact Or.inr (Or.inl rfl) | exact Or.inr (Or.inr rfl))) (se_make (N := NN) (c := 58) (fk_State___init__ (P := P) (base := base) T φ) T.mk_State bd_State___init___1 (hr.mono (by first | decide | omega)) rfl T.g_State pas0 (sb_nil sk_nil)))
    (sss_cons (ss_fld (N := NN) 43 (.cons T.cl_House T.na_House_deeds .nil) (se_var (i := 0) rfl (by first | exact Or.inl rfl | exact Or.inr (Or.inl rfl) | exact Or.inr (Or.inr rfl))) (se_lst sa_nil))
    (sss_cons (ss_fld (N := NN) 44 (.cons T.cl_House T.na_House_earlier .nil) (se_var (i := 0) rfl (by first | exact Or.inl rfl | exact Or.inr (Or.inl rfl) | exact Or.inr (Or.inr rfl))) (se_lst sa_nil))
    (sss_cons (ss_fld (N := NN) 45 (.cons T.cl_House T.na_House_is_busy .nil) (se_var (i := 0) rfl (by first | exact Or.inl rfl | exact Or.inr (Or.inl rfl) | exact Or.inr (Or.inr rfl))) se_bl)
    sss_nil))))
noncomputable def b_is_integer (φ : Nat) : ZS := (zSeq (zRet (xAnd (xCB vIsi (aCons (xVar 0) (aCons (xC (.ty "int")) aNil))) (xNot (xCB vIsi (aCons (xVar 0) (aCons (xC (.ty "bool")) aNil))))))
    zNil)
noncomputable def m_is_integer (φ : Nat) : List Vl → Sto → Out Vl := runB0 1 (b_is_integer φ)
theorem fk_is_integer {P : Program} {w : World} {K : PySem.W.Frag} {mg : Str → Option Value} {base : Heap} (T : Txt w K mg) (φ : Nat) : FnM NN P w K mg base CX0 1 (He.ga K "is_integer") (FunD K "is_integer" "is_integer" (defArgs s_is_integer) (defBody s_is_integer) (defScope s_is_integer) [] [] (He.ga K "is_integer")) ["thing"] (m_is_integer φ) :=
  fn_mk0 (k := 0) (b := b_is_integer φ) (L := N_is_integer) T.F_is_integer sc_is_integer fun cdv A outer s H E hr => SSs.nox (sss_cons (ss_ret (se_and (se_callB cm_isi rfl T.m_isinstance boot_isinstance (sa_cons (se_var (i := 0) rfl (by first | exact Or.inl rfl | exact Or.inr (Or.inl rfl) | exact Or.inr (Or.inr rfl))) (sa_cons (se_bltn rfl T.m_int boot_int) sa_nil))) (se_one (se_not (se_callB cm_isi rfl T.m_isinstance boot_isinstance (sa_cons (se_var (i := 0) rfl (by first | exact Or.inl rfl | exact Or.inr (Or.inl rfl) | exact Or.inr (Or.inr rfl))) (sa_cons (se_bltn rfl T.m_bool boot_bool) sa_nil)))))))
    sss_nil)
theorem bd_is_integer_1 {K : PySem.W.Frag} {f : Addr} : Bd NN K (FunD K "is_integer" "is_integer" (defArgs s_is_integer) (defBody s_is_integer) (defScope s_is_integer) [] [] f) ["thing"] 1 [] (fun xs _ => xs) := bd_all (fun _ _ _ _ _ _ us hl => match us, hl with | [_], _ => rfl)
noncomputable def t1_busiest (φ : Nat)  : XT := (yCmp vLt (xCB vLen (aCons (xVar 1) aNil)) (xVar 0))
noncomputable def l1_busiest (φ : Nat)  : ZS := (zSeq (zDrop (xBM "list" mAppend (xVar 1) (aCons (xTup (aCons (xC (.str "teller")) (aCons (xTup (aCons (xTup (aCons (xC (.str "wait")) (aCons (xOp vSub (xVar 2) (xC (.int 1))) aNil))) (aCons (xTup (aCons (xC (.str "answer")) (aCons (xC (.int 0)) aNil))) aNil))) aNil))) aNil)))
    (zSeq (zAug 2 (xC (.int 2)) vImul)
    zNil))
noncomputable def b_busiest (φ : Nat) : ZS := (zSeq (zIf (yOr (yNot (yV (xCall 1 1 (fun xs _ => xs) 0 (m_is_integer φ) (bArgs (aCons (xVar 0) aNil) aNil)))) (yNot (yChain vLe vLe (xC (.int 1)) (xVar 0) (xC (.int 8))))) (zSeq (zRaise 13)
    zNil) zNil)
    (zSeq (zAsg (xLst (aCons (xTup (aCons (xC (.str "teller")) (aCons (xTup (aCons (xTup (aCons (xC (.str "answer")) (aCons (xC (.int 0)) aNil))) aNil)) aNil))) aNil)) (gmName 1))
    (zSeq (zAsg (xC (.int 2)) (gmName 2))
    (zSeq (zWhile φ (t1_busiest φ) (l1_busiest φ))
    (zSeq (zRet (xUn vRevL (xVar 1)))
    zNil)))))
noncomputable def m_busiest (φ : Nat) : List Vl → Sto → Out Vl := runBX 3 (b_busiest φ)
theorem fk_busiest {P : Program} {w : World} {K : PySem.W.Frag} {mg : Str → Option Value} {base : Heap} (T : Txt w K mg) (φ : Nat) : FnM NN P w K mg base (L2N.CX P w) 2 (He.ga K "busiest") (FunD K "busiest" "busiest" (defArgs s_busiest) (defBody s_busiest) (defScope s_busiest) [] [] (He.ga K "busiest")) ["many"] (m_busiest φ) :=
  fn_mkX (k := 1) (b := b_busiest φ) (L := N_busiest) T.F_busiest sc_busiest fun cdv A outer s H E hr => (sss_cons (ss_if (SW.st (sw_or (st_not (st_val (se_call (N := NN) (fk_is_integer (P := P) (base := base) T φ) bd_is_integer_1 (hr.mono (by first | decide | omega)) rfl T.g_is_integer pas0 (sb_cons (sa_cons (se_var (i := 0) rfl (by first | exact Or.inl rfl | exact Or.inr (Or.inl rfl) | exact Or.inr (Or.inr rfl))) sa_nil) sk_nil)))) (sw_or1 (st_not (st_chain opm_le opm_le se_int (se_var (i := 0) rfl (by first | exact Or.inl rfl | exact Or.inr (Or.inl rfl) | exact Or.inr (Or.inr rfl))) (se_gint rfl T.c_MOST_MACHINES)))))) (sss_cons (ss_raise0 (N := NN) 13 rfl (L2N.takes_of rfl rfl rfl rfl) PySem.F.excBase_ValueError T.x_BadSteps T.g_BadSteps rfl)
    sss_nil) sss_nil)
    (sss_cons (ss_set (i := 1) sc_busiest.nd rfl (by first | exact Or.inl rfl | exact Or.inr rfl) (se_lst (sa_cons (se_tup (sa_cons se_str (sa_cons (se_tup (sa_cons (se_tup (sa_cons se_str (sa_cons se_int sa_nil))) sa_nil)) sa_nil))) sa_nil)))
    (sss_cons (ss_set (i := 2) sc_busiest.nd rfl (by first | exact Or.inl rfl | exact Or.inr rfl) se_int)
    (sss_cons (ss_while φ (passes_of rfl) (st_cmp opm_lt (se_callB cm_len rfl T.m_len boot_len (sa_cons (se_var (i := 1) rfl (by first | exact Or.inl rfl | exact Or.inr (Or.inl rfl) | exact Or.inr (Or.inr rfl))) sa_nil)) (se_var (i := 0) rfl (by first | exact Or.inl rfl | exact Or.inr (Or.inl rfl) | exact Or.inr (Or.inr rfl))) (nomark _)) (sss_cons (ss_expr (se_bm mm_append PySem.F.plainAttrs_list PySem.F.slot_list_append PySem.F.type_list_append (se_var (i := 1) rfl (by first | exact Or.inl rfl | exact Or.inr (Or.inl rfl) | exact Or.inr (Or.inr rfl))) (sa_cons (se_tup (sa_cons se_str (sa_cons (se_tup (sa_cons (se_tup (sa_cons se_str (sa_cons (se_op opm_sub (se_var (i := 2) rfl (by first | exact Or.inl rfl | exact Or.inr (Or.inl rfl) | exact Or.inr (Or.inr rfl))) se_int) sa_nil))) (sa_cons (se_tup (sa_cons se_str (sa_cons se_int sa_nil))) sa_nil))) sa_nil))) sa_nil)))
    (sss_cons (ss_aug (i := 2) opm_imul sc_busiest.nd rfl (by first | exact Or.inl rfl | exact Or.inr rfl) se_int)
    sss_nil)))
    (sss_cons (ss_ret (se_revL (se_var (i := 1) rfl (by first | exact Or.inl rfl | exact Or.inr (Or.inl rfl) | exact Or.inr (Or.inr rfl)))))
    sss_nil)))))
noncomputable def m_House_advance_to (φ : Nat) : List Vl → Sto → Out Vl := fun _ _ => .bad
theorem fk_House_advance_to {P : Program} {w : World} {K : PySem.W.Frag} {mg : Str → Option Value} {base : Heap} (T : Txt w K mg) (φ : Nat) : FnM NN P w K mg base CX0 1 (He.ma K (He.ga K "House") "advance_to") (FunD K "advance_to" "House.advance_to" (defArgs s_House_advance_to) (defBody s_House_advance_to) (defScope s_House_advance_to) [] [] (He.ma K (He.ga K "House") "advance_to")) ["self", "goal", "watch"] (m_House_advance_to φ) := fn_bad T.F_House_advance_to
theorem bd_House_advance_to_3 {K : PySem.W.Frag} {f : Addr} : Bd NN K (FunD K "advance_to" "House.advance_to" (defArgs s_House_advance_to) (defBody s_House_advance_to) (defScope s_House_advance_to) [] [] f) ["self", "goal", "watch"] 3 [] (fun xs _ => xs) := bd_all (fun _ _ _ _ _ _ us hl => match us, hl with | [_, _, _], _ => rfl)
noncomputable def b_House_advance (φ : Nat) : ZS := (zSeq (zIf (yOr (yNot (yV (xCall 1 1 (fun xs _ => xs) 0 (m_is_integer φ) (bArgs (aCons (xVar 1) aNil) aNil)))) (yNot (yChain vLe vLe (xC (.int 0)) (xVar 1) (xC (.int 1000000000000000000000000000000000000000000000000000000000000))))) (zSeq (zRaise 13)
    zNil) zNil)
    (zSeq (zRet (xMeth ((59, ⟨2, 3, 0, (fun xs _ => xs), (m_House_advance_to φ)⟩) :: []) (xVar 0) (bArgs (aCons (xOp vAdd (xFld 37 [58] (xFld 42 [59] (xVar 0))) (xVar 1)) (aCons (xVar 2) aNil)) aNil)))
    zNil))
noncomputable def m_House_advance (φ : Nat) : List Vl → Sto → Out Vl := runBX 3 (b_House_advance φ)
theorem fk_House_advance {P : Program} {w : World} {K : PySem.W.Frag} {mg : Str → Option Value} {base : Heap} (T : Txt w K mg) (φ : Nat) : FnM NN P w K mg base (L2N.CX P w) 2 (He.ma K (He.ga K "House") "advance") (FunD K "advance" "House.advance" (defArgs s_House_advance) (defBody s_House_advance) (defScope s_House_advance) [.int 1] [("watch", .non)] (He.ma K (He.ga K "House") "advance")) ["self", "many", "watch"] (m_House_advance φ) :=
  fn_mkX (k := 1) (b := b_House_advance φ) (L := N_House_advance) T.F_House_advance sc_House_advance fun cdv A outer s H E hr => (sss_cons (ss_if (SW.st (sw_or (st_not (st_val (se_call (N := NN) (fk_is_integer (P := P) (base := base) T φ) bd_is_integer_1 (hr.mono (by first | decide | omega)) rfl T.g_is_integer pas0 (sb_cons (sa_cons (se_var (i := 1) rfl (by first | exact Or.inl rfl | exact Or.inr (Or.inl rfl) | exact Or.inr (Or.inr rfl))) sa_nil) sk_nil)))) (sw_or1 (st_not (st_chain opm_le opm_le se_int (se_var (i := 1) rfl (by first | exact Or.inl rfl | exact Or.inr (Or.inl rfl) | exact Or.inr (Or.inr rfl))) (se_gint rfl T.c_MOST_STEPS)))))) (sss_cons (ss_raise0 (N := NN) 13 rfl (L2N.takes_of rfl rfl rfl rfl) PySem.F.excBase_ValueError T.x_BadSteps T.g_BadSteps rfl)
    sss_nil) sss_nil)
    (sss_cons (ss_ret (se_meth (N := NN) (k := 1) (.cons ⟨_, _, _, _, (fk_House_advance_to (P := P) (base := base) T φ).mono (by first | decide | omega), bd_House_advance_to_3, T.cl_House, T.me_House_advance_to, rfl, rfl, pas0⟩ .nil) (nof (by decide +kernel)) (hr.mono (by first | decide | omega)) (se_var (i := 0) rfl (by first | exact Or.inl rfl | exact Or.inr (Or.inl rfl) | exact Or.inr (Or.inr rfl))) (sb_cons (sa_cons (se_op opm_add (se_fld (N := NN) 37 (.cons T.cl_State T.na_State_now .nil) (se_fld (N := NN) 42 (.cons T.cl_House T.na_House_standing .nil) (se_var (i := 0) rfl (by first | exact Or.inl rfl | exact Or.inr (Or.inl rfl) | exact Or.inr (Or.inr rfl))))) (se_var (i := 1) rfl (by first | exact Or.inl rfl | exact Or.inr (Or.inl rfl) | exact Or.inr (Or.inr rfl)))) (sa_cons (se_var (i := 2) rfl (by first | exact Or.inl rfl | exact Or.inr (Or.inl rfl) | exact Or.inr (Or.inr rfl))) sa_nil)) sk_nil)))
    sss_nil))
theorem bd_busiest_1 {K : PySem.W.Frag} {f : Addr} : Bd NN K (FunD K "busiest" "busiest" (defArgs s_busiest) (defBody s_busiest) (defScope s_busiest) [] [] f) ["many"] 1 [] (fun xs _ => xs) := bd_all (fun _ _ _ _ _ _ us hl => match us, hl with | [_], _ => rfl)
theorem bd_House_advance_2 {K : PySem.W.Frag} {f : Addr} : Bd NN K (FunD K "advance" "House.advance" (defArgs s_House_advance) (defBody s_House_advance) (defScope s_House_advance) [.int 1] [("watch", .non)] f) ["self", "many", "watch"] 2 [] (fun xs zs => xs ++ ([.non] : List Vl)) := bd_kwd 2 [] [("watch", .non)] (fun us its mv ws => us ++ mv) [(.int 1)] [.non] (by simp) (by simp) (by simp) (fun r1 r4 r2 r3 => (r1.append r2)) (fun m H xs zs us ws r1 r3 => have r2 : Vrs NN K m H [.non] [.non] := (.cons .non .nil); have r4 : Vrs NN K m H [(.int 1)] [.int 1] := (.cons (.int _) .nil); (r1.append r2)) (fun T D doc pm an cdv ct us its mv ws h1 h4 h2 h3 => match us, its, mv, ws, h1, h4, h2, h3 with | [_, _], [_], [_], [], _, _, _, _ => ⟨_, rfl, ⟨_, _, _, _, _, _, rfl, rfl, rfl⟩⟩)
theorem bd_House_advance_2_watch {K : PySem.W.Frag} {f : Addr} : Bd NN K (FunD K "advance" "House.advance" (defArgs s_House_advance) (defBody s_House_advance) (defScope s_House_advance) [.int 1] [("watch", .non)] f) ["self", "many", "watch"] 2 ["watch"] (fun xs zs => xs ++ zs) := bd_kwd 2 ["watch"] [] (fun us its mv ws => us ++ ws) [(.int 1)] [] (by simp) (by simp) (by simp) (fun r1 r4 r2 r3 => (r1.append r3)) (fun m H xs zs us ws r1 r3 => have r2 : Vrs NN K m H [] [] := .nil; have r4 : Vrs NN K m H [(.int 1)] [.int 1] := (.cons (.int _) .nil); (r1.append r3)) (fun T D doc pm an cdv ct us its mv ws h1 h4 h2 h3 => match us, its, mv, ws, h1, h4, h2, h3 with | [_, _], [_], [], [_], _, _, _, _ => ⟨_, rfl, rfl⟩)
noncomputable def b__law_refused (φ : Nat) : ZS := (zSeq (zTryX 3 (fun c => List.lookup c tbm_HouseError) (zSeq (zIf (yCmp vEq (xVar 2) (xC (.int 0))) (zSeq (zDrop (xCall 1 1 (fun xs _ => xs) 0 (m_busiest φ) (bArgs (aCons (xVar 1) aNil) aNil)))
    zNil) (zSeq (zIf (yCmp vEq (xVar 2) (xC (.int 1))) (zSeq (zDrop (xMeth ((59, ⟨1, 3, 0, (fun xs zs => xs ++ ([.non] : List Vl)), (m_House_advance φ)⟩) :: []) (xVar 0) (bArgs (aCons (xVar 1) aNil) aNil)))
    zNil) (zSeq (zDrop (xMeth ((59, ⟨1, 3, 1, (fun xs zs => xs ++ zs), (m_House_advance φ)⟩) :: []) (xVar 0) (bArgs (aCons (xVar 1) aNil) (aCons (xC .non) aNil))))
    zNil))
    zNil))
    zNil) (fun c j => (zSeq (zAsg (xLst (aCons (xIsX j (ansOf etab1 etab2 c) (xC (.fn 10))) (aCons (xIsX j (ansOf etab1 etab2 c) (xC (.fn 12))) (aCons (xNot (xIsX j (ansOf etab1 etab2 c) (xC (.ty "ValueError")))) aNil)))) (gmName 4))
    (zSeq (zRet (xAnd (xIsX j (ansOf etab1 etab2 c) (xC (.fn 13))) (xNot (xCB vAny (aCons (xVar 4) aNil)))))
    zNil))))
    (zSeq (zRet (xC (.bl false)))
    zNil))
noncomputable def m__law_refused (φ : Nat) : List Vl → Sto → Out Vl := runB0 5 (b__law_refused φ)
theorem fk__law_refused {P : Program} {w : World} {K : PySem.W.Frag} {mg : Str → Option Value} {base : Heap} (T : Txt w K mg) (φ : Nat) : FnM NN P w K mg base CX0 3 (He.ga K "_law_refused") (FunD K "_law_refused" "_law_refused" (defArgs s__law_refused) (defBody s__law_refused) (defScope s__law_refused) [] [] (He.ga K "_law_refused")) ["_law_house", "_law_thing", "_law_way"] (m__law_refused φ) :=
  fn_mk0 (k := 2) (b := b__law_refused φ) (L := N__law_refused) T.F__law_refused sc__law_refused fun cdv A outer s H E hr => SSs.nox (sss_cons (ss_tryX (N := NN) (i := 3) (mt := fun c => List.lookup c tbm_HouseError) rfl rfl sc__law_refused.nd rfl rfl ⟨rfl, by decide, .inl T.g_HouseError⟩ takes0 (lk_ok (mt_HouseError T)) (fun W' pn xe tk _ => (sss_cons (ss_if (st_cmp (opm_eq hr.units) (se_var (i := 2) rfl (by first | exact Or.inl rfl | exact Or.inr (Or.inl rfl) | exact Or.inr (Or.inr rfl))) se_int (nomark _)) (sss_cons (ss_expr (se_call (N := NN) (fk_busiest (P := P) (base := base) T φ) bd_busiest_1 (hr.mono (by first | decide | omega)) rfl T.g_busiest (fun σ => L2N.passAt tk σ) (sb_cons (sa_cons (se_var (i := 1) rfl (by first | exact Or.inl rfl | exact Or.inr (Or.inl rfl) | exact Or.inr (Or.inr rfl))) sa_nil) sk_nil)))
    sss_nil) (sss_cons (ss_if (st_cmp (opm_eq hr.units) (se_var (i := 2) rfl (by first | exact Or.inl rfl | exact Or.inr (Or.inl rfl) | exact Or.inr (Or.inr rfl))) se_int (nomark _)) (sss_cons (ss_expr (se_meth (N := NN) (k := 2) (.cons ⟨_, _, _, _, (fk_House_advance (P := P) (base := base) T φ).mono (by first | decide | omega), bd_House_advance_2, T.cl_House, T.me_House_advance, rfl, rfl, (fun σ => L2N.passAt tk σ)⟩ .nil) (nof (by decide +kernel)) (hr.mono (by first | decide | omega)) (se_var (i := 0) rfl (by first | exact Or.inl rfl | exact Or.inr (Or.inl rfl) | exact Or.inr (Or.inr rfl))) (sb_cons (sa_cons (se_var (i := 1) rfl (by first | exact Or.inl rfl | exact Or.inr (Or.inl rfl) | exact Or.inr (Or.inr rfl))) sa_nil) sk_nil)))
    sss_nil) (sss_cons (ss_expr (se_meth (N := NN) (k := 2) (.cons ⟨_, _, _, _, (fk_House_advance (P := P) (base := base) T φ).mono (by first | decide | omega), bd_House_advance_2_watch, T.cl_House, T.me_House_advance, rfl, rfl, (fun σ => L2N.passAt tk σ)⟩ .nil) (nof (by decide +kernel)) (hr.mono (by first | decide | omega)) (se_var (i := 0) rfl (by first | exact Or.inl rfl | exact Or.inr (Or.inl rfl) | exact Or.inr (Or.inr rfl))) (sb_cons (sa_cons (se_var (i := 1) rfl (by first | exact Or.inl rfl | exact Or.inr (Or.inl rfl) | exact Or.inr (Or.inr rfl))) sa_nil) (sk_cons se_non sk_nil))))
    sss_nil))
    sss_nil))
    sss_nil)) (fun c hc j d a oe pn hjd hz hv => (sss_cons (ss_set (hfr := Nms.frX rfl) (i := 4) sc__law_refused.nd rfl (by first | exact Or.inl rfl | exact Or.inr rfl) (se_lst (sa_cons (se_isX (N := NN) (c := c) (i := 3) hjd (lk_ok (xc_HouseError T) c true hc) hz.zc hv rfl (by first | exact Or.inl rfl | exact Or.inr (Or.inl rfl) | exact Or.inr (Or.inr rfl)) rfl T.m_isinstance (se_gfn (N := NN.hldX 3 a (prX j d)) 10 rfl T.g_BadProgram (by exact (by decide : (NN.g 10 == ("__debug__" : Str)) = false))) (ans_ok (et_1 T) (et_2 T) c)) (sa_cons (se_isX (N := NN) (c := c) (i := 3) hjd (lk_ok (xc_HouseError T) c true hc) hz.zc hv rfl (by first | exact Or.inl rfl | exact Or.inr (Or.inl rfl) | exact Or.inr (Or.inr rfl)) rfl T.m_isinstance (se_gfn (N := NN.hldX 3 a (prX j d)) 12 rfl T.g_BadSide (by exact (by decide : (NN.g 12 == ("__debug__" : Str)) = false))) (ans_ok (et_1 T) (et_2 T) c)) (sa_cons (se_not (se_isX (N := NN) (c := c) (i := 3) hjd (lk_ok (xc_HouseError T) c true hc) hz.zc hv rfl (by first | exact Or.inl rfl | exact Or.inr (Or.inl rfl) | exact Or.inr (Or.inr rfl)) rfl T.m_isinstance (se_bltn rfl T.m_ValueError boot_ValueError) (ans_ok (et_1 T) (et_2 T) c))) sa_nil)))))
    (sss_cons (ss_ret (se_and (se_isX (N := NN) (c := c) (i := 3) hjd (lk_ok (xc_HouseError T) c true hc) hz.zc hv rfl (by first | exact Or.inl rfl | exact Or.inr (Or.inl rfl) | exact Or.inr (Or.inr rfl)) rfl T.m_isinstance (se_gfn (N := NN.hldX 3 a (prX j d)) 13 rfl T.g_BadSteps (by exact (by decide : (NN.g 13 == ("__debug__" : Str)) = false))) (ans_ok (et_1 T) (et_2 T) c)) (se_one (se_not (se_callB (N := NN.hldX 3 a (prX j d)) (cm_anyH hv hz.2.2) rfl T.m_any boot_any (sa_cons (se_var (i := 4) rfl (by first | exact Or.inl rfl | exact Or.inr (Or.inl rfl) | exact Or.inr (Or.inr rfl))) sa_nil))))))
    sss_nil))))
    (sss_cons (ss_ret se_bl)
    sss_nil))
noncomputable def b_House_clock (φ : Nat) : ZS := (zSeq (zRet (xFld 37 [58] (xFld 42 [59] (xVar 0))))
    zNil)
noncomputable def m_House_clock (φ : Nat) : List Vl → Sto → Out Vl := runB0 1 (b_House_clock φ)
theorem fk_House_clock {P : Program} {w : World} {K : PySem.W.Frag} {mg : Str → Option Value} {base : Heap} (T : Txt w K mg) (φ : Nat) : FnM NN P w K mg base CX0 1 (He.ma K (He.ga K "House") "clock") (FunD K "clock" "House.clock" (defArgs s_House_clock) (defBody s_House_clock) (defScope s_House_clock) [] [] (He.ma K (He.ga K "House") "clock")) ["self"] (m_House_clock φ) :=
  fn_mk0 (k := 0) (b := b_House_clock φ) (L := N_House_clock) T.F_House_clock sc_House_clock fun cdv A outer s H E hr => SSs.nox (sss_cons (ss_ret (se_fld (N := NN) 37 (.cons T.cl_State T.na_State_now .nil) (se_fld (N := NN) 42 (.cons T.cl_House T.na_House_standing .nil) (se_var (i := 0) rfl (by first | exact Or.inl rfl | exact Or.inr (Or.inl rfl) | exact Or.inr (Or.inr rfl))))))
    sss_nil)
noncomputable def b_House_history (φ : Nat) : ZS := (zSeq (zRet (xCB vList (aCons (xFld 43 [59] (xVar 0)) aNil)))
    zNil)
noncomputable def m_House_history (φ : Nat) : List Vl → Sto → Out Vl := runB0 1 (b_House_history φ)
theorem fk_House_history {P : Program} {w : World} {K : PySem.W.Frag} {mg : Str → Option Value} {base : Heap} (T : Txt w K mg) (φ : Nat) : FnM NN P w K mg base CX0 1 (He.ma K (He.ga K "House") "history") (FunD K "history" "House.history" (defArgs s_House_history) (defBody s_House_history) (defScope s_House_history) [] [] (He.ma K (He.ga K "House") "history")) ["self"] (m_House_history φ) :=
  fn_mk0 (k := 0) (b := b_House_history φ) (L := N_House_history) T.F_House_history sc_House_history fun cdv A outer s H E hr => SSs.nox (sss_cons (ss_ret (se_callTy (cm_list rfl) rfl T.m_list boot_list (sa_cons (se_fld (N := NN) 43 (.cons T.cl_House T.na_House_deeds .nil) (se_var (i := 0) rfl (by first | exact Or.inl rfl | exact Or.inr (Or.inl rfl) | exact Or.inr (Or.inr rfl)))) sa_nil)))
    sss_nil)
theorem bd__law_purse_2 {K : PySem.W.Frag} {f : Addr} : Bd NN K (FunD K "_law_purse" "_law_purse" (defArgs s__law_purse) (defBody s__law_purse) (defScope s__law_purse) [] [] f) ["_law_script", "_law_at"] 2 [] (fun xs _ => xs) := bd_all (fun _ _ _ _ _ _ us hl => match us, hl with | [_, _], _ => rfl)
theorem bd__law_take_2 {K : PySem.W.Frag} {f : Addr} : Bd NN K (FunD K "_law_take" "_law_take" (defArgs s__law_take) (defBody s__law_take) (defScope s__law_take) [] [] f) ["_law_bag", "_law_many"] 2 [] (fun xs _ => xs) := bd_all (fun _ _ _ _ _ _ us hl => match us, hl with | [_, _], _ => rfl)
noncomputable abbrev c1_law (φ : Nat)  : XE' := (xLc (iRange1 (aCons (xVar 2) aNil)) (gmName 12) yYes (xOp vIx (xLst (aCons (xC (.str "teller")) (aCons (xC (.str "collector")) aNil))) (xCB vInt (aCons (xOp vEq (xCall 2 2 (fun xs _ => xs) 0 (m__law_take φ) (bArgs (aCons (xVar 1) (aCons (xC (.int 4)) aNil)) aNil)) (xC (.int 0))) aNil))) [12])
noncomputable def l1_law (φ : Nat)  : ZS := (zSeq (zDrop (xBM "list" mAppend (xVar 5) (aCons (xOp vAdd (xC (.int 1)) (xOp vMul (xCB vSum (aCons (xVar 5) aNil)) (xCB vInt (aCons (xOp vEq (xVar 6) (xC (.str "teller"))) aNil)))) aNil)))
    zNil)
theorem bd_most_acts_1 {K : PySem.W.Frag} {f : Addr} : Bd NN K (FunD K "most_acts" "most_acts" (defArgs s_most_acts) (defBody s_most_acts) (defScope s_most_acts) [] [] f) ["kinds"] 1 [] (fun xs _ => xs) := bd_all (fun _ _ _ _ _ _ us hl => match us, hl with | [_], _ => rfl)
theorem bd__law_alike_2 {K : PySem.W.Frag} {f : Addr} : Bd NN K (FunD K "_law_alike" "_law_alike" (defArgs s__law_alike) (defBody s__law_alike) (defScope s__law_alike) [] [] f) ["_law_found", "_law_due"] 2 [] (fun xs _ => xs) := bd_all (fun _ _ _ _ _ _ us hl => match us, hl with | [_, _], _ => rfl)
theorem bd_House___init___1 {K : PySem.W.Frag} {f : Addr} : Bd NN K (FunD K "__init__" "House.__init__" (defArgs s_House___init__) (defBody s_House___init__) (defScope s_House___init__) [] [] f) ["self"] 1 [] (fun xs _ => xs) := bd_all (fun _ _ _ _ _ _ us hl => match us, hl with | [_], _ => rfl)
noncomputable abbrev c2_law (φ : Nat)  : XE' := (xLc (iAny (xVar 7)) (gmName 13) yYes (xOp vIx (xVar 13) (xC (.int 0))) [13])
theorem bd_is_program_1 {K : PySem.W.Frag} {f : Addr} : Bd NN K (FunD K "is_program" "is_program" (defArgs s_is_program) (defBody s_is_program) (defScope s_is_program) [] [] f) ["thing"] 1 [] (fun xs _ => xs) := bd_all (fun _ _ _ _ _ _ us hl => match us, hl with | [_], _ => rfl)
noncomputable abbrev c3_law (φ : Nat)  : XE' := (xLc (iAny (xVar 7)) (gmName 13) yYes (xCall 1 1 (fun xs _ => xs) 0 (m_is_program φ) (bArgs (aCons (xVar 13) aNil) aNil)) [13])
theorem bd__law_refused_3 {K : PySem.W.Frag} {f : Addr} : Bd NN K (FunD K "_law_refused" "_law_refused" (defArgs s__law_refused) (defBody s__law_refused) (defScope s__law_refused) [] [] f) ["_law_house", "_law_thing", "_law_way"] 3 [] (fun xs _ => xs) := bd_all (fun _ _ _ _ _ _ us hl => match us, hl with | [_, _, _], _ => rfl)
noncomputable abbrev c4_law (φ : Nat)  : XE' := (xLc (iRange1 (aCons (xC (.int 3)) aNil)) (gmName 14) yYes (xCall 3 3 (fun xs _ => xs) 0 (m__law_refused φ) (bArgs (aCons (xVar 8) (aCons (xVar 11) (aCons (xVar 14) aNil))) aNil)) [14])
noncomputable def l2_law (φ : Nat)  : ZS := (zSeq (zIf (yNot (yV (xCB vAll (aCons (c4_law φ) aNil)))) (zSeq (zRet (xC (.bl false)))
    zNil) zNil)
    zNil)
theorem bd_House_history_1 {K : PySem.W.Frag} {f : Addr} : Bd NN K (FunD K "history" "House.history" (defArgs s_House_history) (defBody s_House_history) (defScope s_House_history) [] [] f) ["self"] 1 [] (fun xs _ => xs) := bd_all (fun _ _ _ _ _ _ us hl => match us, hl with | [_], _ => rfl)
theorem bd_House_clock_1 {K : PySem.W.Frag} {f : Addr} : Bd NN K (FunD K "clock" "House.clock" (defArgs s_House_clock) (defBody s_House_clock) (defScope s_House_clock) [] [] f) ["self"] 1 [] (fun xs _ => xs) := bd_all (fun _ _ _ _ _ _ us hl => match us, hl with | [_], _ => rfl)
noncomputable def b_law (φ : Nat) : ZS := (zSeq (zAsg (xCall 2 2 (fun xs _ => xs) 0 (m__law_purse φ) (bArgs (aCons (xVar 0) (aCons (xC (.int 0)) aNil)) aNil)) (gmName 1))
    (zSeq (zAsg (xCall 2 2 (fun xs _ => xs) 0 (m__law_take φ) (bArgs (aCons (xVar 1) (aCons (xOp vIx (xLst (aCons (xC (.int 5)) (aCons (xC (.int 201)) aNil))) (xCall 2 2 (fun xs _ => xs) 0 (m__law_take φ) (bArgs (aCons (xVar 1) (aCons (xC (.int 2)) aNil)) aNil))) aNil)) aNil)) (gmName 2))
    (zSeq (zAsg (c1_law φ) (gmName 3))
    (zSeq (zPar 4 5 (xCB vList (aCons (xVar 3) aNil)) (xLst aNil))
    (zSeq (zFor (iAny (xVar 3)) (gmName 6) (l1_law φ))
    (zSeq (zAsg (xCall 1 1 (fun xs _ => xs) 0 (m_most_acts φ) (bArgs (aCons (xVar 4) aNil) aNil)) (gmName 7))
    (zSeq (zIf (yOr (yNot (yV (xCall 2 2 (fun xs _ => xs) 0 (m__law_alike φ) (bArgs (aCons (xVar 7) (aCons (xVar 5) aNil)) aNil)))) (yCmp vNe (xVar 4) (xVar 3))) (zSeq (zRet (xC (.bl false)))
    zNil) zNil)
    (zSeq (zDrop (xBM "list" mAppend (xVar 7) (aCons (xC (.int 0)) aNil)))
    (zSeq (zIf (yOr (yNot (yV (xCall 2 2 (fun xs _ => xs) 0 (m__law_alike φ) (bArgs (aCons (xCall 1 1 (fun xs _ => xs) 0 (m_most_acts φ) (bArgs (aCons (xVar 4) aNil) aNil)) (aCons (xVar 5) aNil)) aNil)))) (yOr (yCmp vNe (xCall 1 1 (fun xs _ => xs) 0 (m_most_acts φ) (bArgs (aCons (xLst aNil) aNil) aNil)) (xLst aNil)) (yCmp vNe (xCall 1 1 (fun xs _ => xs) 0 (m_most_acts φ) (bArgs (aCons (xLst (aCons (xC (.str "teller")) (aCons (xC (.str "teller")) aNil))) aNil) aNil)) (xLst (aCons (xC (.int 1)) (aCons (xC (.int 2)) aNil)))))) (zSeq (zRet (xC (.bl false)))
    zNil) zNil)
    (zSeq (zAsg (xTup (aCons (xCall 2 2 (fun xs _ => xs) 0 (m__law_purse φ) (bArgs (aCons (xVar 0) (aCons (xC (.int 1)) aNil)) aNil)) (aCons (xMake 59 0 1 (fun xs _ => xs) 0 (m_House___init__ φ) (bArgs aNil aNil)) aNil))) (gmTup 2 (gmsCons (gmName 1) (gmsCons (gmName 8) gmsNil))))
    (zSeq (zAsg (xOp vAdd (xC (.int 1)) (xCall 2 2 (fun xs _ => xs) 0 (m__law_take φ) (bArgs (aCons (xVar 1) (aCons (xC (.int 8)) aNil)) aNil))) (gmName 2))
    (zSeq (zAsg (xCall 1 1 (fun xs _ => xs) 0 (m_busiest φ) (bArgs (aCons (xVar 2) aNil) aNil)) (gmName 7))
    (zSeq (zIf (yOr (yNot (yV (xCB vIsi (aCons (xVar 7) (aCons (xC (.ty "list")) aNil))))) (yOr (yCmp vNe (xCB vLen (aCons (xVar 7) aNil)) (xVar 2)) (yCmp vNe (c2_law φ) (xOp vMulL (xLst (aCons (xC (.str "teller")) aNil)) (xVar 2))))) (zSeq (zRet (xC (.bl false)))
    zNil) zNil)
    (zSeq (zIf (yNot (yV (xCB vAll (aCons (c3_law φ) aNil)))) (zSeq (zRet (xC (.bl false)))
    zNil) zNil)
    (zSeq (zAsg (xCB vRepr (aCons (xVar 7) aNil)) (gmName 9))
    (zSeq (zDrop (xBM "list" mClear (xVar 7) aNil))
    (zSeq (zIf (yCmp vNe (xCB vRepr (aCons (xCall 1 1 (fun xs _ => xs) 0 (m_busiest φ) (bArgs (aCons (xVar 2) aNil) aNil)) aNil)) (xVar 9)) (zSeq (zRet (xC (.bl false)))
    zNil) zNil)
    (zSeq (zAsg (xCall 2 2 (fun xs _ => xs) 0 (m__law_purse φ) (bArgs (aCons (xVar 0) (aCons (xC (.int 2)) aNil)) aNil)) (gmName 1))
    (zSeq (zAsg (xOp vIx (xLst (aCons (xC (.bl true)) (aCons (xC (.bl false)) (aCons (xC .non) (aCons (xC (.str "1")) (aCons (xTup (aCons (xC (.int 1)) aNil)) (aCons (xLst (aCons (xC (.int 1)) aNil)) (aCons (xOp vSub (xUn vNeg (xC (.int 1))) (xCall 2 2 (fun xs _ => xs) 0 (m__law_take φ) (bArgs (aCons (xVar 1) (aCons (xOp vPow (xC (.int 10)) (xC (.int 30))) aNil)) aNil))) (aCons (xC (.str "")) aNil))))))))) (xCall 2 2 (fun xs _ => xs) 0 (m__law_take φ) (bArgs (aCons (xVar 1) (aCons (xC (.int 8)) aNil)) aNil))) (gmName 10))
    (zSeq (zFor (iAny (xLst (aCons (xVar 10) (aCons (xUn vNeg (xC (.int 1))) (aCons (xOp vAdd (xOp vPow (xC (.int 10)) (xC (.int 60))) (xC (.int 1))) (aCons (xOp vMul (xOp vPow (xC (.int 10)) (xC (.int 49))) (xOp vPow (xC (.int 10)) (xC (.int 50)))) aNil)))))) (gmName 11) (l2_law φ))
    (zSeq (zIf (yOr (yNot (yV (xCall 3 3 (fun xs _ => xs) 0 (m__law_refused φ) (bArgs (aCons (xVar 8) (aCons (xC (.int 0)) (aCons (xC (.int 0)) aNil))) aNil)))) (yNot (yV (xCall 3 3 (fun xs _ => xs) 0 (m__law_refused φ) (bArgs (aCons (xVar 8) (aCons (xOp vAdd (xC (.int 9)) (xCall 2 2 (fun xs _ => xs) 0 (m__law_take φ) (bArgs (aCons (xVar 1) (aCons (xOp vPow (xC (.int 10)) (xC (.int 30))) aNil)) aNil))) (aCons (xC (.int 0)) aNil))) aNil))))) (zSeq (zRet (xC (.bl false)))
    zNil) zNil)
    (zSeq (zRet (xAnd (xOp vEq (xMeth ((59, ⟨0, 1, 0, (fun xs _ => xs), (m_House_clock φ)⟩) :: []) (xVar 8) (bArgs aNil aNil)) (xC (.int 0))) (xOp vEq (xMeth ((59, ⟨0, 1, 0, (fun xs _ => xs), (m_House_history φ)⟩) :: []) (xVar 8) (bArgs aNil aNil)) (xLst aNil))))
    zNil))))))))))))))))))))))
noncomputable def m_law (φ : Nat) : List Vl → Sto → Out Vl := runBX 15 (b_law φ)
theorem fk_law {P : Program} {w : World} {K : PySem.W.Frag} {mg : Str → Option Value} {base : Heap} (T : Txt w K mg) (φ : Nat) : FnMG NN P w K mg base (L2N.CX P w) 18 (He.ga K "law") (FunD K "law" "law" (defArgs s_law) (defBody s_law) (defScope s_law) [] [] (He.ga K "law")) ["_law_script"] (m_law φ) :=
  fn_mkXG (k := 17) (b := b_law φ) (L := N_law) T.F_law sc_law fun cdv A outer s H E hgd hr => (sss_cons (ss_set (i := 1) sc_law.nd rfl (by first | exact Or.inl rfl | exact Or.inr rfl) (se_call (N := NN) (fk__law_purse (P := P) (base := base) T φ) bd__law_purse_2 (hr.mono (by first | decide | omega)) rfl T.g__law_purse pas0 (sb_cons (sa_cons (se_var (i := 0) rfl (by first | exact Or.inl rfl | exact Or.inr (Or.inl rfl) | exact Or.inr (Or.inr rfl))) (sa_cons se_int sa_nil)) sk_nil)))
    (sss_cons (ss_set (i := 2) sc_law.nd rfl (by first | exact Or.inl rfl | exact Or.inr rfl) (se_call (N := NN) (fk__law_take (P := P) (base := base) T φ) bd__law_take_2 (hr.mono (by first | decide | omega)) rfl T.g__law_take pas0 (sb_cons (sa_cons (se_var (i := 1) rfl (by first | exact Or.inl rfl | exact Or.inr (Or.inl rfl) | exact Or.inr (Or.inr rfl))) (sa_cons (se_ix (ixm hr.units) (se_lst (sa_cons se_int (sa_cons se_int sa_nil))) (se_call (N := NN) (fk__law_take (P := P) (base := base) T φ) bd__law_take_2 (hr.mono (by first | decide | omega)) rfl T.g__law_take pas0 (sb_cons (sa_cons (se_var (i := 1) rfl (by first | exact Or.inl rfl | exact Or.inr (Or.inl rfl) | exact Or.inr (Or.inr rfl))) (sa_cons se_int sa_nil)) sk_nil)) (fun _ _ => rfl)) sa_nil)) sk_nil)))
    (sss_cons (ss_setLc (own := [("_law_turn", 12)]) rfl sc_law.nd (si_range1 rfl T.m_range (sa_cons (se_var (i := 2) rfl (by first | exact Or.inl rfl | exact Or.inr (Or.inl rfl) | exact Or.inr (Or.inr rfl))) sa_nil)) (blkOk_by (own := [("_law_turn", 12)]) (N := N_law) (sc := defScope s_law) (by decide +kernel)) (sgv_name (by decide)) (fun _ _ _ _ _ => (pg_name (i := 12) sc_law.nd rfl (by first | exact Or.inl rfl | exact Or.inr rfl))) (fun _ _ _ _ _ => (se_ix (ixm hr.units) (se_lst (sa_cons se_str (sa_cons se_str sa_nil))) (se_callTy cm_int rfl T.m_int boot_int (sa_cons (se_cmp (opm_eq hr.units) (se_call (N := NN) (fk__law_take (P := P) (base := base) T φ) bd__law_take_2 (hr.mono (by first | decide | omega)) rfl T.g__law_take pas0 (sb_cons (sa_cons (se_var (i := 1) rfl (by first | exact Or.inl rfl | exact Or.inr (Or.inl rfl) | exact Or.inr (Or.inr rfl))) (sa_cons se_int sa_nil)) sk_nil)) se_int (nomark _)) sa_nil)) (fun _ _ => rfl))) (i := 3) rfl rfl (sw_true rfl rfl rfl rfl))
    (sss_cons (ss_par (i := 4) (j := 5) rfl sc_law.nd rfl rfl (by decide) rfl rfl (se_callTy (cm_list rfl) rfl T.m_list boot_list (sa_cons (se_var (i := 3) rfl (by first | exact Or.inl rfl | exact Or.inr (Or.inl rfl) | exact Or.inr (Or.inr rfl))) sa_nil)) (se_lst sa_nil) (by rfl))
    (sss_cons (ss_for (passes_of rfl) rfl (si_any (se_var (i := 3) rfl (by first | exact Or.inl rfl | exact Or.inr (Or.inl rfl) | exact Or.inr (Or.inr rfl)))) (sg_name (i := 6) sc_law.nd rfl (by first | exact Or.inl rfl | exact Or.inr rfl)) (sss_cons (ss_expr (se_bm mm_append PySem.F.plainAttrs_list PySem.F.slot_list_append PySem.F.type_list_append (se_var (i := 5) rfl (by first | exact Or.inl rfl | exact Or.inr (Or.inl rfl) | exact Or.inr (Or.inr rfl))) (sa_cons (se_op opm_add se_int (se_op opm_mul (se_callB (cm_sum rfl) rfl T.m_sum boot_sum (sa_cons (se_var (i := 5) rfl (by first | exact Or.inl rfl | exact Or.inr (Or.inl rfl) | exact Or.inr (Or.inr rfl))) sa_nil)) (se_callTy cm_int rfl T.m_int boot_int (sa_cons (se_cmp (opm_eq hr.units) (se_var (i := 6) rfl (by first | exact Or.inl rfl | exact Or.inr (Or.inl rfl) | exact Or.inr (Or.inr rfl))) se_str (nomark _)) sa_nil)))) sa_nil)))
    sss_nil))
    (sss_cons (ss_set (i := 7) sc_law.nd rfl (by first | exact Or.inl rfl | exact Or.inr rfl) (se_call (N := NN) (fk_most_acts (P := P) (base := base) T φ) bd_most_acts_1 (hr.mono (by first | decide | omega)) rfl T.g_most_acts pas0 (sb_cons (sa_cons (se_var (i := 4) rfl (by first | exact Or.inl rfl | exact Or.inr (Or.inl rfl) | exact Or.inr (Or.inr rfl))) sa_nil) sk_nil)))
    (sss_cons (ss_if (SW.st (sw_or (st_not (st_val (se_callG (N := NN) (fk__law_alike (P := P) (base := base) T φ) bd__law_alike_2 hgd (hr.mono (by first | decide | omega)) rfl T.g__law_alike pas0 (sb_cons (sa_cons (se_var (i := 7) rfl (by first | exact Or.inl rfl | exact Or.inr (Or.inl rfl) | exact Or.inr (Or.inr rfl))) (sa_cons (se_var (i := 5) rfl (by first | exact Or.inl rfl | exact Or.inr (Or.inl rfl) | exact Or.inr (Or.inr rfl))) sa_nil)) sk_nil)))) (sw_or1 (st_cmp (opm_ne hr.units) (se_var (i := 4) rfl (by first | exact Or.inl rfl | exact Or.inr (Or.inl rfl) | exact Or.inr (Or.inr rfl))) (se_var (i := 3) rfl (by first | exact Or.inl rfl | exact Or.inr (Or.inl rfl) | exact Or.inr (Or.inr rfl))) (nomark _))))) (sss_cons (ss_ret se_bl)
    sss_nil) sss_nil)
    (sss_cons (ss_expr (se_bm mm_append PySem.F.plainAttrs_list PySem.F.slot_list_append PySem.F.type_list_append (se_var (i := 7) rfl (by first | exact Or.inl rfl | exact Or.inr (Or.inl rfl) | exact Or.inr (Or.inr rfl))) (sa_cons se_int sa_nil)))
    (sss_cons (ss_if (SW.st (sw_or (st_not (st_val (se_callG (N := NN) (fk__law_alike (P := P) (base := base) T φ) bd__law_alike_2 hgd (hr.mono (by first | decide | omega)) rfl T.g__law_alike pas0 (sb_cons (sa_cons (se_call (N := NN) (fk_most_acts (P := P) (base := base) T φ) bd_most_acts_1 (hr.mono (by first | decide | omega)) rfl T.g_most_acts pas0 (sb_cons (sa_cons (se_var (i := 4) rfl (by first | exact Or.inl rfl | exact Or.inr (Or.inl rfl) | exact Or.inr (Or.inr rfl))) sa_nil) sk_nil)) (sa_cons (se_var (i := 5) rfl (by first | exact Or.inl rfl | exact Or.inr (Or.inl rfl) | exact Or.inr (Or.inr rfl))) sa_nil)) sk_nil)))) (sw_or (st_cmp (opm_ne hr.units) (se_call (N := NN) (fk_most_acts (P := P) (base := base) T φ) bd_most_acts_1 (hr.mono (by first | decide | omega)) rfl T.g_most_acts pas0 (sb_cons (sa_cons (se_lst sa_nil) sa_nil) sk_nil)) (se_lst sa_nil) (nomark _)) (sw_or1 (st_cmp (opm_ne hr.units) (se_call (N := NN) (fk_most_acts (P := P) (base := base) T φ) bd_most_acts_1 (hr.mono (by first | decide | omega)) rfl T.g_most_acts pas0 (sb_cons (sa_cons (se_lst (sa_cons se_str (sa_cons se_str sa_nil))) sa_nil) sk_nil)) (se_lst (sa_cons se_int (sa_cons se_int sa_nil))) (nomark _)))))) (sss_cons (ss_ret se_bl)
    sss_nil) sss_nil)
    (sss_cons (ss_asg (se_tup (sa_cons (se_call (N := NN) (fk__law_purse (P := P) (base := base) T φ) bd__law_purse_2 (hr.mono (by first | decide | omega)) rfl T.g__law_purse pas0 (sb_cons (sa_cons (se_var (i := 0) rfl (by first | exact Or.inl rfl | exact Or.inr (Or.inl rfl) | exact Or.inr (Or.inr rfl))) (sa_cons se_int sa_nil)) sk_nil)) (sa_cons (se_make (N := NN) (c := 59) (fk_House___init__ (P := P) (base := base) T φ) T.mk_House bd_House___init___1 (hr.mono (by first | decide | omega)) rfl T.g_House pas0 (sb_nil sk_nil)) sa_nil))) (sg_tup (n := 2) rfl (sgs_cons (sg_name (i := 1) sc_law.nd rfl (by first | exact Or.inl rfl | exact Or.inr rfl)) (sgs_cons (sg_name (i := 8) sc_law.nd rfl (by first | exact Or.inl rfl | exact Or.inr rfl)) sgs_nil))))
    (sss_cons (ss_set (i := 2) sc_law.nd rfl (by first | exact Or.inl rfl | exact Or.inr rfl) (se_op opm_add se_int (se_call (N := NN) (fk__law_take (P := P) (base := base) T φ) bd__law_take_2 (hr.mono (by first | decide | omega)) rfl T.g__law_take pas0 (sb_cons (sa_cons (se_var (i := 1) rfl (by first | exact Or.inl rfl | exact Or.inr (Or.inl rfl) | exact Or.inr (Or.inr rfl))) (sa_cons se_int sa_nil)) sk_nil))))
    (sss_cons (ss_set (i := 7) sc_law.nd rfl (by first | exact Or.inl rfl | exact Or.inr rfl) (se_call (N := NN) (fk_busiest (P := P) (base := base) T φ) bd_busiest_1 (hr.mono (by first | decide | omega)) rfl T.g_busiest (fun σ => L2N.passAt (L2N.takes_of rfl rfl rfl rfl) σ) (sb_cons (sa_cons (se_var (i := 2) rfl (by first | exact Or.inl rfl | exact Or.inr (Or.inl rfl) | exact Or.inr (Or.inr rfl))) sa_nil) sk_nil)))
    (sss_cons (ss_if (SW.st (sw_or (st_not (st_val (se_callB cm_isi rfl T.m_isinstance boot_isinstance (sa_cons (se_var (i := 7) rfl (by first | exact Or.inl rfl | exact Or.inr (Or.inl rfl) | exact Or.inr (Or.inr rfl))) (sa_cons (se_bltn rfl T.m_list boot_list) sa_nil))))) (sw_or (st_cmp (opm_ne hr.units) (se_callB cm_len rfl T.m_len boot_len (sa_cons (se_var (i := 7) rfl (by first | exact Or.inl rfl | exact Or.inr (Or.inl rfl) | exact Or.inr (Or.inr rfl))) sa_nil)) (se_var (i := 2) rfl (by first | exact Or.inl rfl | exact Or.inr (Or.inl rfl) | exact Or.inr (Or.inr rfl))) (nomark _)) (sw_or1 (st_cmp (opm_ne hr.units) (se_lc (own := [("_law_one", 13)]) rfl sc_law.nd (si_any (se_var (i := 7) rfl (by first | exact Or.inl rfl | exact Or.inr (Or.inl rfl) | exact Or.inr (Or.inr rfl)))) (blkOk_by (own := [("_law_one", 13)]) (N := N_law) (sc := defScope s_law) (by decide +kernel)) (sgv_name (by decide)) (fun _ _ _ _ _ => (pg_name (i := 13) sc_law.nd rfl (by first | exact Or.inl rfl | exact Or.inr rfl))) (fun _ _ _ _ _ => (se_ix (ixm hr.units) (se_var (i := 13) rfl (by first | exact Or.inl rfl | exact Or.inr (Or.inl rfl) | exact Or.inr (Or.inr rfl))) se_int (fun _ _ => rfl)))) (se_op opm_mulL (se_lst (sa_cons se_str sa_nil)) (se_var (i := 2) rfl (by first | exact Or.inl rfl | exact Or.inr (Or.inl rfl) | exact Or.inr (Or.inr rfl)))) (nomark _)))))) (sss_cons (ss_ret se_bl)
    sss_nil) sss_nil)
    (sss_cons (ss_if (st_not (st_val (se_callB (cm_all rfl) rfl T.m_all boot_all (sa_cons (se_lc (own := [("_law_one", 13)]) rfl sc_law.nd (si_any (se_var (i := 7) rfl (by first | exact Or.inl rfl | exact Or.inr (Or.inl rfl) | exact Or.inr (Or.inr rfl)))) (blkOk_by (own := [("_law_one", 13)]) (N := N_law) (sc := defScope s_law) (by decide +kernel)) (sgv_name (by decide)) (fun _ _ _ _ _ => (pg_name (i := 13) sc_law.nd rfl (by first | exact Or.inl rfl | exact Or.inr rfl))) (fun _ _ _ _ _ => (se_call (N := NN) (fk_is_program (P := P) (base := base) T φ) bd_is_program_1 (hr.mono (by first | decide | omega)) rfl T.g_is_program pas0 (sb_cons (sa_cons (se_var (i := 13) rfl (by first | exact Or.inl rfl | exact Or.inr (Or.inl rfl) | exact Or.inr (Or.inr rfl))) sa_nil) sk_nil)))) sa_nil)))) (sss_cons (ss_ret se_bl)
    sss_nil) sss_nil)
    (sss_cons (ss_set (i := 9) sc_law.nd rfl (by first | exact Or.inl rfl | exact Or.inr rfl) (se_callB (cm_repr hgd hr.units) rfl T.m_repr boot_repr (sa_cons (se_var (i := 7) rfl (by first | exact Or.inl rfl | exact Or.inr (Or.inl rfl) | exact Or.inr (Or.inr rfl))) sa_nil)))
    (sss_cons (ss_expr (se_bm0 mm_clear PySem.F.plainAttrs_list PySem.F.slot_list_clear PySem.F.type_list_clear (se_var (i := 7) rfl (by first | exact Or.inl rfl | exact Or.inr (Or.inl rfl) | exact Or.inr (Or.inr rfl)))))
    (sss_cons (ss_if (st_cmp (opm_ne hr.units) (se_callB (cm_repr hgd hr.units) rfl T.m_repr boot_repr (sa_cons (se_call (N := NN) (fk_busiest (P := P) (base := base) T φ) bd_busiest_1 (hr.mono (by first | decide | omega)) rfl T.g_busiest (fun σ => L2N.passAt (L2N.takes_of rfl rfl rfl rfl) σ) (sb_cons (sa_cons (se_var (i := 2) rfl (by first | exact Or.inl rfl | exact Or.inr (Or.inl rfl) | exact Or.inr (Or.inr rfl))) sa_nil) sk_nil)) sa_nil)) (se_var (i := 9) rfl (by first | exact Or.inl rfl | exact Or.inr (Or.inl rfl) | exact Or.inr (Or.inr rfl))) (nomark _)) (sss_cons (ss_ret se_bl)
    sss_nil) sss_nil)
    (sss_cons (ss_set (i := 1) sc_law.nd rfl (by first | exact Or.inl rfl | exact Or.inr rfl) (se_call (N := NN) (fk__law_purse (P := P) (base := base) T φ) bd__law_purse_2 (hr.mono (by first | decide | omega)) rfl T.g__law_purse pas0 (sb_cons (sa_cons (se_var (i := 0) rfl (by first | exact Or.inl rfl | exact Or.inr (Or.inl rfl) | exact Or.inr (Or.inr rfl))) (sa_cons se_int sa_nil)) sk_nil)))
    (sss_cons (ss_set (i := 10) sc_law.nd rfl (by first | exact Or.inl rfl | exact Or.inr rfl) (se_ix (ixm hr.units) (se_lst (sa_cons se_bl (sa_cons se_bl (sa_cons se_non (sa_cons se_str (sa_cons (se_tup (sa_cons se_int sa_nil)) (sa_cons (se_lst (sa_cons se_int sa_nil)) (sa_cons (se_op opm_sub (se_neg se_int) (se_call (N := NN) (fk__law_take (P := P) (base := base) T φ) bd__law_take_2 (hr.mono (by first | decide | omega)) rfl T.g__law_take pas0 (sb_cons (sa_cons (se_var (i := 1) rfl (by first | exact Or.inl rfl | exact Or.inr (Or.inl rfl) | exact Or.inr (Or.inr rfl))) (sa_cons (se_op opm_pow se_int se_int) sa_nil)) sk_nil))) (sa_cons se_str sa_nil))))))))) (se_call (N := NN) (fk__law_take (P := P) (base := base) T φ) bd__law_take_2 (hr.mono (by first | decide | omega)) rfl T.g__law_take pas0 (sb_cons (sa_cons (se_var (i := 1) rfl (by first | exact Or.inl rfl | exact Or.inr (Or.inl rfl) | exact Or.inr (Or.inr rfl))) (sa_cons se_int sa_nil)) sk_nil)) (fun _ _ => rfl)))
    (sss_cons (ss_for (passes_of rfl) rfl (si_any (se_lst (sa_cons (se_var (i := 10) rfl (by first | exact Or.inl rfl | exact Or.inr (Or.inl rfl) | exact Or.inr (Or.inr rfl))) (sa_cons (se_neg se_int) (sa_cons (se_op opm_add (se_op opm_pow se_int se_int) se_int) (sa_cons (se_op opm_mul (se_op opm_pow se_int se_int) (se_op opm_pow se_int se_int)) sa_nil)))))) (sg_name (i := 11) sc_law.nd rfl (by first | exact Or.inl rfl | exact Or.inr rfl)) (sss_cons (ss_if (st_not (st_val (se_callB (cm_all rfl) rfl T.m_all boot_all (sa_cons (se_lc (own := [("_law_way", 14)]) rfl sc_law.nd (si_range1 rfl T.m_range (sa_cons se_int sa_nil)) (blkOk_by (own := [("_law_way", 14)]) (N := N_law) (sc := defScope s_law) (by decide +kernel)) (sgv_name (by decide)) (fun _ _ _ _ _ => (pg_name (i := 14) sc_law.nd rfl (by first | exact Or.inl rfl | exact Or.inr rfl))) (fun _ _ _ _ _ => (se_call (N := NN) (fk__law_refused (P := P) (base := base) T φ) bd__law_refused_3 (hr.mono (by first | decide | omega)) rfl T.g__law_refused pas0 (sb_cons (sa_cons (se_var (i := 8) rfl (by first | exact Or.inl rfl | exact Or.inr (Or.inl rfl) | exact Or.inr (Or.inr rfl))) (sa_cons (se_var (i := 11) rfl (by first | exact Or.inl rfl | exact Or.inr (Or.inl rfl) | exact Or.inr (Or.inr rfl))) (sa_cons (se_var (i := 14) rfl (by first | exact Or.inl rfl | exact Or.inr (Or.inl rfl) | exact Or.inr (Or.inr rfl))) sa_nil))) sk_nil)))) sa_nil)))) (sss_cons (ss_ret se_bl)
    sss_nil) sss_nil)
    sss_nil))
    (sss_cons (ss_if (SW.st (sw_or (st_not (st_val (se_call (N := NN) (fk__law_refused (P := P) (base := base) T φ) bd__law_refused_3 (hr.mono (by first | decide | omega)) rfl T.g__law_refused pas0 (sb_cons (sa_cons (se_var (i := 8) rfl (by first | exact Or.inl rfl | exact Or.inr (Or.inl rfl) | exact Or.inr (Or.inr rfl))) (sa_cons se_int (sa_cons se_int sa_nil))) sk_nil)))) (sw_or1 (st_not (st_val (se_call (N := NN) (fk__law_refused (P := P) (base := base) T φ) bd__law_refused_3 (hr.mono (by first | decide | omega)) rfl T.g__law_refused pas0 (sb_cons (sa_cons (se_var (i := 8) rfl (by first | exact Or.inl rfl | exact Or.inr (Or.inl rfl) | exact Or.inr (Or.inr rfl))) (sa_cons (se_op opm_add se_int (se_call (N := NN) (fk__law_take (P := P) (base := base) T φ) bd__law_take_2 (hr.mono (by first | decide | omega)) rfl T.g__law_take pas0 (sb_cons (sa_cons (se_var (i := 1) rfl (by first | exact Or.inl rfl | exact Or.inr (Or.inl rfl) | exact Or.inr (Or.inr rfl))) (sa_cons (se_op opm_pow se_int se_int) sa_nil)) sk_nil))) (sa_cons se_int sa_nil))) sk_nil))))))) (sss_cons (ss_ret se_bl)
    sss_nil) sss_nil)
    (sss_cons (ss_ret (se_and (se_cmp (opm_eq hr.units) (se_meth (N := NN) (k := 1) (.cons ⟨_, _, _, _, (fk_House_clock (P := P) (base := base) T φ).mono (by first | decide | omega), bd_House_clock_1, T.cl_House, T.me_House_clock, rfl, rfl, pas0⟩ .nil) (nof (by decide +kernel)) (hr.mono (by first | decide | omega)) (se_var (i := 8) rfl (by first | exact Or.inl rfl | exact Or.inr (Or.inl rfl) | exact Or.inr (Or.inr rfl))) (sb_nil sk_nil)) se_int (nomark _)) (se_one (se_cmp (opm_eq hr.units) (se_meth (N := NN) (k := 1) (.cons ⟨_, _, _, _, (fk_House_history (P := P) (base := base) T φ).mono (by first | decide | omega), bd_House_history_1, T.cl_House, T.me_House_history, rfl, rfl, pas0⟩ .nil) (nof (by decide +kernel)) (hr.mono (by first | decide | omega)) (se_var (i := 8) rfl (by first | exact Or.inl rfl | exact Or.inr (Or.inl rfl) | exact Or.inr (Or.inr rfl))) (sb_nil sk_nil)) (se_lst sa_nil) (nomark _)))))
    sss_nil))))))))))))))))))))))
end Nt

namespace Nt
open PySem PySem.Spec PyProof.Rows L2 Evl
local macro_rules
  | `(tactic| simp! only [$xs,*] $[$loc]?) => `(tactic| simp -implicitDefEqProofs only [zSeq_e, sq_nx, sq_rt, sq_bk, sq_ct, sq_er, sq_bad, zNil_e, zBrk_e, zCnt_e, zRaise_e, kNx_ok, kNx_err, zAsg_e, kAsg_ok, kAsg_err, zDrop_e, kDrop_ok, kDrop_err, zRet_e, kRet_ok, kRet_err, zIf_e, kIf_t, kIf_f, kIf_err, zAug_e, kAugV_s, kAug_ok, kSet_ok, zPar_e, kPar1_ok, kPar2_ok, run0_e, fin0_nx, fin0_rt, runX_e, finX_nx, finX_rt, finX_er, gmName_e, gmTup_t, gmTup_k, gmTup_l, kTL_s, gmsNil_e, gmsCons_e, kG_ok, kG1_ok, gmStar_t, gmStar_k, gmSub_e, kSub1_ok, kSub2_ok, kSub3_ok, gmFld_e, kGF1_ok, kGF2_s, xVar_e, kVar_s, xC_e, xOp_e, kOp1_ok, kOp1_err, kOp2_ok, kOp2_err, xUn_e, kUn_ok, aNil_e, aCons_e, kA1_ok, kA1_err, kA2_ok, kA2_err, xTup_e, kTp_ok, kTp_err, xLst_e, kLst_ok, kLst_err, xCB_e, kCB_ok, kCB_err, yCmp_e, yChain_e, kB_ok, kB_err, xChain_e, kCh1_ok, kCh2_ok, kCh3_t, kCh3_f, yV_e, kV_ok, kV_err, yYes_e, yAnd_e, kAnd_t, kAnd_f, kAnd_err, yOr_e, kOr_t, kOr_f, kOr_err, yNot_e, kNot_ok, kNot_err, xIf_e, kXIf_t, kXIf_f, kXIf_err, xAnd_e, kXA_ok, kXA2_t, kXA2_f, xOr_e, kXO_ok, kXO2_t, kXO2_f, xNot_e, kXN_ok, kXN2_ok, bArgs_e, kBA1_ok, kBA1_err, kBA2_ok, kBA2_err, xCall_e, kCall_ok, kCall_err, xMake_e, kMk1_ok, kMk1_err, kMk2_ok, kMk2_err, xMeth_e, kMe1_ok, kMe1b_s, kMe2_ok, kMe3_ok, kMe3_err, xFld_e, kF3_s, kF1_ok, kF2_s, kF1_err, xCallV_k, kCV1_s, kCV2_ok, xBM_e, kBM1_ok, kBM2_ok, zFA_e, kFA1c_s, kFA1_ok, kFA1b_s, kFA2_ok, kFA3_ok, kFA4_s, kAt_s, kAtI_s, kDg_s, kRf_l, kRf_k, vIx_tup, vIx_ktp, vIx_scr, vIx_ri, vIx_rs, vIx_rt, zFor_e, kFor_ok, kFor_err, itR_f, itL_f, itT_f, iRange1_e, kR1_ok, iAny_e, kAny_t, kAny_k, kAny_r, kIt_l, kDi_s, vIn_r, vIn_t, vIn_k, kIn_l, kIn_k, kIn_t, vMul_l, vMul_r, vDiv_w, vDiv_s, vMod_s, vPow_10, a_0, a_1, a_2, a_3, i_0, i_1, i_2, zTryAs_e, catch_nx, catch_rt, catch_er, outS_nx, outS_rt, xIsE_e, kIsE_ok, kIsE2_s, enter, vAdd, vSub, vMul_l, vMul_r, vDiv_s, vDiv_w, vMod_s, vPow_10, vCmpI, vNeg, vIadd, vSetI, vLen, vAbs, vMax, vMin, vInt, vStr, vList, vTuple, vEq_int, vEq_str, vNe_int, vNe_str, vIs, vIsNot, isNon, asTup, mAppend, mReverse, mPop, tyM, toB, truth, xGet1, xGet2, isDct, dGet, dPut, toK, toKs, putL, xDk, xDt, vIxT, vInT, zAsg3, xSl, oNone, oSome, vSl, a_0, a_1, a_2, a_3, i_0, i_1, i_2, List.length_cons, List.length_nil, Out.bind_ok, Out.bind_err, Out.bind_bad, Out.bindS_ok, Out.bindS_err, Out.bindS_bad, xCBK, vMinD, iRev, vRevL, xSetd, vLR, vDictP, vSortP, vMin1, zLock, unlk, iFz, fdV, vIaddW, mAppendW, zTryM_e, catchM_nx, catchM_rt, catchM_er, kCM_t, kCM_f, vMulL, zAsg2, List.map_cons, List.map_nil, List.cons_append, List.nil_append, List.append_nil, List.replicate_succ, List.replicate_zero, Nat.reduceSub, Nat.reduceAdd, Nat.reduceLeDiff, List.getElem?_cons_zero, List.getElem?_cons_succ, List.getElem?_nil, List.set_cons_zero, List.set_cons_succ, List.set_nil, List.lookup_cons, List.lookup_nil, List.contains_cons, List.drop_zero, List.drop_succ_cons, List.take_succ_cons, List.take_zero, List.contains_nil, Nat.reduceBEq, Nat.reduceEqDiff, beq_self_eq_true, Bool.or_false, Bool.or_true, Bool.true_or, Bool.false_or, Bool.and_true, Bool.true_and, Bool.and_false, Bool.false_and, ↓reduceIte, if_true, if_false, ite_true, ite_false, decide_true, decide_false, decide_eq_true_eq, Bool.not_true, Bool.not_false, true_and, and_true, and_self, or_true, true_or, false_or, or_false, Bool.false_eq_true, reduceCtorEq, Int.reduceLT, Int.reduceLE, Int.reduceEq, Int.reduceAdd, Int.reduceSub, Int.reduceMul, Int.reduceNeg, Int.reduceToNat, Int.reducePow, Nat.reducePow, not_true_eq_false, not_false_eq_true, Nat.zero_le, Nat.zero_add, Nat.reduceLT, Nat.le_refl, and_false, false_and, Option.getD_some, Option.getD_none, Option.isSome_some, Option.isSome_none, Bool.false_xor, Bool.true_xor, $xs,*] $[$loc]?)
/-! ### the purse: a cell's digits, then mixed numbers -/
def Pu (S : Sto) (b : Nat) (Z : Int) : Prop := ∃ x y z : Int, S[b]? = some (.lst [.int x, .int y, .int z]) ∧ 0 ≤ y ∧ y < 2147483647 ∧ 0 ≤ z ∧ z ≤ Z
section
variable {S S' : Sto} {b : Nat} {Z Z' : Int}
theorem Pu.kp {ids : List Nat} (h : Pu S b Z) (k : Kp ids S S') (n : b ∉ ids) : Pu S' b Z := by
  obtain ⟨x, y, z, h, r⟩ := h
  exact ⟨x, y, z, k.get h n, r⟩
theorem Pu.app {T : Sto} (h : Pu S b Z) : Pu (S ++ T) b Z := by
  obtain ⟨x, y, z, h, r⟩ := h
  exact ⟨x, y, z, get_app h, r⟩
theorem Pu.lt (h : Pu S b Z) : b < S.length := by
  obtain ⟨x, y, z, h, r⟩ := h
  exact get_lt h
theorem Pu.mono (h : Pu S b Z) (l : Z ≤ Z') : Pu S b Z' := by
  obtain ⟨x, y, z, h, r1, r2, r3, r4⟩ := h
  exact ⟨x, y, z, h, r1, r2, r3, by omega⟩
end
theorem tpow_le {i j : Nat} (h : i ≤ j) : (16777216 : Int) ^ i ≤ 16777216 ^ j := ipow_le (a := 16777216) (by omega) h
theorem tpow_6 : (16777216 : Int) ^ 6 = 22300745198530623141535718272648361505980416 := by decide +kernel
theorem take_ok {φ b : Nat} {S : Sto} {m Z : Int} (hφ : 12 < φ) (hb : Pu S b Z) (hm : 0 < m) (hm2 : m ≤ 22300745198530623141535718272648361505980416) (hZ : Z ≤ 1000000) : ∃ r S', m__law_take φ [.ref b, .int m] S = .ok (.int r) S' ∧ Kp [b] S S' ∧ Pu S' b (Z + 7) ∧ 0 ≤ r ∧ r < m := by
  obtain ⟨x, y, z, hb, y1, y2, z1, z2⟩ := hb
  by_cases hx : 0 < x
  · have hl : m.natAbs.log2 < 9000 := Nat.lt_of_lt_of_le ((Nat.log2_lt (k := 145) (by omega)).mpr (by
      have h1 : m.natAbs ≤ 22300745198530623141535718272648361505980416 := by omega
      have h2 : 22300745198530623141535718272648361505980416 < 2 ^ 145 := by decide +kernel
      omega)) (by decide)
    refine ⟨x % m, S.set b (.lst [.int (x / m), .int y, .int z]), ?_, Kp.set (by simp), ⟨_, _, _, get_set hb, y1, y2, z1, by omega⟩, Int.emod_nonneg _ (by omega), Int.emod_lt_of_pos _ hm⟩
    simp! only [m__law_take, b__law_take, hb, hx, hm, hl]
  · obtain ⟨e, S', h1, f, g, h2, h3, h4⟩ := whileZ_inv (t := t1__law_take φ) (f := l1__law_take φ) (fun n env S' => ∃ (i : Nat) (f : Int), n + i = 7 ∧ env = [some (.ref b), some (.int m), none, some (.int f), some (.int (16777216 ^ i))] ∧ Kp [b] S S' ∧ ∃ x y z : Int, S'[b]? = some (.lst [.int x, .int y, .int z]) ∧ 0 ≤ y ∧ y < 2147483647 ∧ 0 ≤ z ∧ z ≤ Z + i) (fun env S' => ∃ f g, env = [some (.ref b), some (.int m), none, some (.int f), some (.int g)] ∧ Kp [b] S S' ∧ Pu S' b (Z + 7)) (fun n env S1 ⟨i, f, hi, he, k, x, y, z, hb1, y1, y2, z1, z2⟩ => by
      subst he
      by_cases hlt : (16777216 : Int) ^ i < m
      · refine .inr (.inl ?_)
        have hi6 : i < 6 := by
          rcases Nat.lt_or_ge i 6 with h | h
          · exact h
          · have h6 := tpow_le h
            rw [tpow_6] at h6
            omega
        have w1 : -18446744073709551616 < y ∧ y < 18446744073709551616 := by omega
        have w2 : -18446744073709551616 < z + 1 ∧ z + 1 < 18446744073709551616 := by omega
        have b1 : (S1.set b (Ob.lst [.int x, .int y, .int (z + 1)]))[b]? = some (Ob.lst [.int x, .int y, .int (z + 1)]) := get_set hb1
        generalize hy' : (y * 48271 + 31 * (z + 1) * (z + 1) + 11) % 2147483647 = y'
        have hy1 : 0 ≤ y' := by rw [← hy']; exact Int.emod_nonneg _ (by omega)
        have hy2 : y' < 2147483647 := by rw [← hy']; exact Int.emod_lt_of_pos _ (by omega)
        have w3 : -18446744073709551616 < y' ∧ y' < 18446744073709551616 := by omega
        have b2 : ((S1.set b (Ob.lst [.int x, .int y, .int (z + 1)])).set b (Ob.lst [.int x, .int y', .int (z + 1)]))[b]? = some (Ob.lst [.int x, .int y', .int (z + 1)]) := get_set b1
        generalize hS2 : S1.set b (Ob.lst [.int x, .int y, .int (z + 1)]) = S2 at *
        generalize hS3 : S2.set b (Ob.lst [.int x, .int y', .int (z + 1)]) = S3 at *
        have k3 : Kp [b] S1 S3 := by rw [← hS3, ← hS2]; exact (Kp.set (by simp)).trans (Kp.set (by simp))
        refine ⟨S1, n - 1, [some (.ref b), some (.int m), none, some (.int (f * 16777216 + y' * (y' / 65536 + 7) % 2147483629 / 64 % 16777216)), some (.int (16777216 ^ (i + 1)))], S3, by simp! only [t1__law_take, hlt], .inl ?_, by omega, i + 1, _, by omega, rfl, k.trans k3, x, y', z + 1, b2, hy1, hy2, by omega, by push_cast; omega⟩
        simp! only [l1__law_take, hb1, b1, w1, w2, hy', hS2, hS3, w3, b2, Int.pow_succ]
      · refine .inl ⟨S1, by simp! only [t1__law_take, hlt], f, _, rfl, k, x, y, z, hb1, y1, y2, z1, by omega⟩) φ 7 [some (.ref b), some (.int m), none, some (.int 0), some (.int 1)] S (by omega) ⟨0, 0, rfl, rfl, .refl, x, y, z, hb, y1, y2, z1, by simpa using z2⟩
    subst h2
    refine ⟨f % m, S', ?_, h3, h4, Int.emod_nonneg _ (by omega), Int.emod_lt_of_pos _ hm⟩
    simp! only [m__law_take, b__law_take, hb, hx, zWhile_e, h1, hm]
theorem purse_ok {φ k : Nat} {S : Sto} {ns : List Int} (hk1 : k ≤ 1000) : ∃ x y, m__law_purse φ [.scr ns, .int (k : Int)] S = .ok (.ref S.length) (S ++ [.lst [.int x, .int y, .int 0]]) ∧ 0 ≤ y ∧ y < 2147483647 := by
  have h1 : -18446744073709551616 < (k : Int) ∧ (k : Int) < 18446744073709551616 := by omega
  have hb : ∀ (p : Prop) [Decidable p], -18446744073709551616 < (if p then (1 : Int) else 0) ∧ (if p then (1 : Int) else 0) < 18446744073709551616 := by intro p _; split <;> omega
  by_cases hk : k < ns.length
  · obtain ⟨c, hc⟩ : ∃ c, atI ns (k : Int) = some c := ⟨ns[k], atI_nat (List.getElem?_eq_getElem hk)⟩
    have hki : (k : Int) < (ns.length : Int) := by omega
    refine ⟨(if c < 0 then -c else c) * (if 1000000000000000000 ≤ (if c < 0 then -c else c) then 1 else 0), (c % 2147483647 + 7919 * (k : Int) + 17) % 2147483647, ?_, Int.emod_nonneg _ (by omega), Int.emod_lt_of_pos _ (by omega)⟩
    simp! only [m__law_purse, b__law_purse, hki, hc, h1, hb]
    all_goals rfl
  · have hki : ¬ (k : Int) < (ns.length : Int) := by omega
    refine ⟨0, (0 % 2147483647 + 7919 * (k : Int) + 17) % 2147483647, ?_, Int.emod_nonneg _ (by omega), Int.emod_lt_of_pos _ (by omega)⟩
    simp! only [m__law_purse, b__law_purse, hki, h1, hb]
    all_goals rfl

/-! ### the trees as data: programs -/
mutual
def noL : PyData → Bool
  | .list _ => false
  | .dict _ => false
  | .tuple xs => noLs xs
  | _ => true
def noLs : List PyData → Bool
  | [] => true
  | x :: xs => noL x && noLs xs
end
def dP (col : Bool) (bd : List Stm) : PyData := .tuple [.str (sK col), .tuple (dB bd)]
theorem chk_set : chk "set" = pSet := by unfold chk; rw [if_pos rfl]
theorem chk_add : chk "add" = pAdd := by unfold chk; rw [if_neg (by decide +kernel), if_pos rfl]
theorem chk_wait : chk "wait" = pWait := by unfold chk; rw [if_neg (by decide +kernel), if_neg (by decide +kernel), if_pos rfl]
theorem chk_ask : chk "ask" = pAsk := by unfold chk; rw [if_neg (by decide +kernel), if_neg (by decide +kernel), if_neg (by decide +kernel), if_pos rfl]
theorem chk_answer : chk "answer" = pAns := by unfold chk; rw [if_neg (by decide +kernel), if_neg (by decide +kernel), if_neg (by decide +kernel), if_neg (by decide +kernel), if_pos rfl]
theorem chk_grow : chk "grow" = pTerm := by unfold chk; rw [if_neg (by decide +kernel), if_neg (by decide +kernel), if_neg (by decide +kernel), if_neg (by decide +kernel), if_neg (by decide +kernel)]
theorem chk_list : chk "list" = pTerm := by unfold chk; rw [if_neg (by decide +kernel), if_neg (by decide +kernel), if_neg (by decide +kernel), if_neg (by decide +kernel), if_neg (by decide +kernel)]
theorem isOne_x (x : Bool) : isOne vars (.str (dX x)) = true := by cases x <;> decide +kernel
theorem isOne_s (s : Sg) : isOne comps (.str (sG s)) = true := by cases s <;> decide +kernel
theorem isOne_d (s : Di) : isOne dirs (.str (sD s)) = true := by cases s <;> decide +kernel
theorem isTerm_t {t : Tm} (h : okT t) : isTerm (dT t) = true := by
  cases t with
  | v b => unfold isTerm dT; rw [isOne_x]; exact Bool.or_true _
  | k n =>
    have h : 0 ≤ n ∧ n ≤ 15 := h
    show (decide (0 ≤ n) && decide (n < 16) || _) = true
    rw [decide_eq_true h.1, decide_eq_true (show n < 16 by omega)]; rfl
theorem isCond_c {c : Cd} (h : okT c.t) : isCond (dC c) = true := by
  show (isOne vars (.str (dX c.x)) && (isOne comps (.str (sG c.s)) && isTerm (dT c.t))) = true
  rw [isOne_x, isOne_s, isTerm_t h]; rfl
theorem wd_T : words (sK false) = wordsT := by decide +kernel
theorem wd_C : words (sK true) = wordsC := by decide +kernel
theorem nb_while : 1 = nBod "while" := by decide +kernel
theorem nb_if : 2 = nBod "if" := by decide +kernel
theorem cntStmt_while {kind : Str} {cb : PyData → Option Int} {c b : PyData} (h : isCond c = true) : cntStmt kind cb (.tuple [.str "while", c, b]) = (cb b).map (1 + ·) := by
  rw [cntStmt_blk (by decide +kernel)]
  show (if ([b] : List PyData).length = nBod "while" ∧ isCond c = true then (sumO [cb b]).map (1 + ·) else none) = _
  rw [if_pos ⟨nb_while, h⟩, sumO_one]
theorem cntStmt_if {kind : Str} {cb : PyData → Option Int} {c b d : PyData} (h : isCond c = true) : cntStmt kind cb (.tuple [.str "if", c, b, d]) = (match cb b, cb d with
    | some x, some y => some (1 + (x + y))
    | _, _ => none) := by
  rw [cntStmt_blk (by decide +kernel)]
  show (if ([b, d] : List PyData).length = nBod "if" ∧ isCond c = true then (sumO [cb b, cb d]).map (1 + ·) else none) = _
  rw [if_pos ⟨nb_if, h⟩, sumO_two]
  cases cb b <;> cases cb d <;> rfl
mutual
theorem cnt_S {col : Bool} : ∀ {f : Nat} {s : Stm}, okS col f s → cntStmt (sK col) (cntBody (sK col) f) (dS s) = some (szS s : Int)
  | f, .wait n, h => by
    rw [okS] at h
    refine okSimple.cnt ⟨"wait", _, rfl, by cases col <;> decide +kernel, ?_⟩ _
    rw [chk_wait]
    show (decide (1 ≤ n) && decide (n ≤ 1000000000000000000000000000000)) = true
    rw [decide_eq_true h.1, decide_eq_true (show n ≤ 1000000000000000000000000000000 by omega)]; rfl
  | f, .set x n, h => by
    rw [okS] at h
    refine okSimple.cnt ⟨"set", _, rfl, by cases col <;> decide +kernel, ?_⟩ _
    rw [chk_set]
    show (isOne vars (.str (dX x)) && (decide (0 ≤ n) && decide (n < 16))) = true
    rw [isOne_x, decide_eq_true h.1, decide_eq_true (show n < 16 by omega)]; rfl
  | f, .add x t, h => by
    rw [okS] at h
    refine okSimple.cnt ⟨"add", _, rfl, by cases col <;> decide +kernel, ?_⟩ _
    rw [chk_add]
    show (isOne vars (.str (dX x)) && isTerm (dT t)) = true
    rw [isOne_x, isTerm_t h]; rfl
  | f, .ask s t x, h => by
    rw [okS] at h
    obtain ⟨h, rfl⟩ := h
    refine okSimple.cnt ⟨"ask", _, rfl, by decide +kernel, ?_⟩ _
    rw [chk_ask]
    show (isOne dirs (.str (sD s)) && (isTerm (dT t) && isOne vars (.str (dX x)))) = true
    rw [isOne_x, isOne_d, isTerm_t h]; rfl
  | f, .answer n, h => by
    rw [okS] at h
    obtain ⟨h, rfl⟩ := h
    refine okSimple.cnt ⟨"answer", _, rfl, by decide +kernel, ?_⟩ _
    rw [chk_answer]
    show (decide (0 ≤ n) && decide (n ≤ 1)) = true
    rw [decide_eq_true h.1, decide_eq_true h.2]; rfl
  | f, .grow t, h => by
    rw [okS] at h
    obtain ⟨h, rfl⟩ := h
    refine okSimple.cnt ⟨"grow", _, rfl, by decide +kernel, ?_⟩ _
    rw [chk_grow]
    exact isTerm_t h
  | f, .list t, h => by
    rw [okS] at h
    obtain ⟨h, rfl⟩ := h
    refine okSimple.cnt ⟨"list", _, rfl, by decide +kernel, ?_⟩ _
    rw [chk_list]
    exact isTerm_t h
  | f, .whl c b, h => by
    rw [okS] at h
    show cntStmt _ _ (.tuple [.str "while", dC c, .tuple (dB b)]) = _
    rw [cntStmt_while (isCond_c h.1), cnt_B h.2]
    show some (1 + (szB b : Int)) = some ((1 + szB b : Nat) : Int)
    congr 1
  | f, .ite c b d, h => by
    rw [okS] at h
    show cntStmt _ _ (.tuple [.str "if", dC c, .tuple (dB b), .tuple (dB d)]) = _
    rw [cntStmt_if (isCond_c h.1), cnt_B h.2.1, cnt_B h.2.2]
    show some (1 + ((szB b : Int) + (szB d : Int))) = some ((1 + (szB b + szB d) : Nat) : Int)
    congr 1
theorem cnt_B {col : Bool} : ∀ {f : Nat} {b : List Stm}, okB col f b → cntBody (sK col) f (.tuple (dB b)) = some (szB b : Int)
  | f, [], _ => by rw [dB, cntBody_nil]; rfl
  | 0, s :: ss, h => by rw [okB] at h; exact h.elim
  | f + 1, s :: ss, h => by
    rw [okB] at h
    have h2 := cnt_B h.2
    rw [cntBody_S] at h2
    rw [dB, cntBody_S, List.map_cons, sumO_cons, cnt_S h.1, h2]
    show some ((szS s : Int) + (szB ss : Int)) = some ((szS s + szB ss : Nat) : Int)
    congr 1
end

theorem sK_kind (col : Bool) : okKind (sK col) := by cases col <;> first | exact .inl rfl | exact .inr rfl
theorem isProg_dP {col : Bool} {bd : List Stm} (h : okB col 4 bd) (hs : szB bd ≤ 24) : isProg (dP col bd) = true := by
  unfold dP
  rw [isProg_eq (sK_kind col), cnt_B h]
  exact decide_eq_true (by omega)
/-! reading back -/
mutual
def hgt : PyData → Nat
  | .list xs => 1 + hgts xs
  | .tuple xs => 1 + hgts xs
  | _ => 1
def hgts : List PyData → Nat
  | [] => 0
  | x :: xs => max (hgt x) (hgts xs)
end
mutual
theorem toD_tv {S : Sto} : ∀ {d : PyData} {n : Nat}, noL d = true → hgt d ≤ n → toD n S (tv d) = some d
  | .none, n + 1, _, _ => by rw [tv]; rfl
  | .bool b, n + 1, _, _ => by rw [tv]; rfl
  | .int i, n + 1, _, _ => by rw [tv]; rfl
  | .str s, n + 1, _, _ => by rw [tv]; rfl
  | .tuple xs, n + 1, h, hn => by
    rw [noL] at h
    rw [hgt] at hn
    rw [tv]
    show (allD (toD n S) (tv.tvs xs)).map PyData.tuple = _
    rw [toDs_tv h (by omega)]; rfl
  | .list xs, _, h, _ => by rw [noL] at h; cases h
  | .dict xs, _, h, _ => by rw [noL] at h; cases h
  | .none, 0, _, h => absurd h (by show ¬ 1 ≤ 0; omega)
  | .bool b, 0, _, h => absurd h (by show ¬ 1 ≤ 0; omega)
  | .int i, 0, _, h => absurd h (by show ¬ 1 ≤ 0; omega)
  | .str s, 0, _, h => absurd h (by show ¬ 1 ≤ 0; omega)
  | .tuple xs, 0, _, h => by rw [hgt] at h; omega
theorem toDs_tv {S : Sto} : ∀ {ds : List PyData} {n : Nat}, noLs ds = true → hgts ds ≤ n → allD (toD n S) (tv.tvs ds) = some ds
  | [], n, _, _ => by rw [tv.tvs]; rfl
  | d :: ds, n, h, hn => by
    rw [noLs, Bool.and_eq_true] at h
    rw [hgts] at hn
    rw [tv.tvs, allD, toD_tv h.1 (by omega), toDs_tv h.2 (by omega)]
end
theorem noL_T (t : Tm) : noL (dT t) = true := by cases t <;> rfl
theorem hgt_T (t : Tm) : hgt (dT t) = 1 := by cases t <;> rfl
theorem noL_C (c : Cd) : noL (dC c) = true := by
  unfold dC
  simp only [noL, noLs, noL_T, Bool.and_self]
theorem hgt_C (c : Cd) : hgt (dC c) = 2 := by
  unfold dC
  simp only [hgt, hgts, hgt_T]
  rfl
mutual
theorem noL_S : ∀ s : Stm, noL (dS s) = true
  | .wait n => by rw [dS]; rfl
  | .set x n => by rw [dS]; rfl
  | .add x t => by rw [dS]; simp only [noL, noLs, noL_T, Bool.and_self]
  | .ask s t x => by rw [dS]; simp only [noL, noLs, noL_T, Bool.and_self]
  | .answer n => by rw [dS]; rfl
  | .grow t => by rw [dS]; simp only [noL, noLs, noL_T, Bool.and_self]
  | .list t => by rw [dS]; simp only [noL, noLs, noL_T, Bool.and_self]
  | .whl c b => by rw [dS]; simp only [noL, noLs, noL_C, noL_B b, Bool.and_self]
  | .ite c b d => by rw [dS]; simp only [noL, noLs, noL_C, noL_B b, noL_B d, Bool.and_self]
theorem noL_B : ∀ b : List Stm, noLs (dB b) = true
  | [] => by rw [dB]; rfl
  | s :: ss => by rw [dB, noLs, noL_S s, noL_B ss]; rfl
end
mutual
theorem hgt_S {col : Bool} : ∀ {f : Nat} {s : Stm}, okS col f s → hgt (dS s) ≤ 2 * f + 4
  | f, .wait n, _ => by rw [dS]; simp only [hgt, hgts]; omega
  | f, .set x n, _ => by rw [dS]; simp only [hgt, hgts]; omega
  | f, .add x t, _ => by rw [dS]; simp only [hgt, hgts, hgt_T]; omega
  | f, .ask s t x, _ => by rw [dS]; simp only [hgt, hgts, hgt_T]; omega
  | f, .answer n, _ => by rw [dS]; simp only [hgt, hgts]; omega
  | f, .grow t, _ => by rw [dS]; simp only [hgt, hgts, hgt_T]; omega
  | f, .list t, _ => by rw [dS]; simp only [hgt, hgts, hgt_T]; omega
  | f, .whl c b, h => by
    rw [okS] at h
    have := hgt_B h.2
    rw [dS]; simp only [hgt, hgts, hgt_C]; omega
  | f, .ite c b d, h => by
    rw [okS] at h
    have := hgt_B h.2.1
    have := hgt_B h.2.2
    rw [dS]; simp only [hgt, hgts, hgt_C]; omega
theorem hgt_B {col : Bool} : ∀ {f : Nat} {b : List Stm}, okB col f b → hgts (dB b) ≤ 2 * f + 2
  | f, [], _ => by rw [dB]; simp only [hgts]; omega
  | 0, s :: ss, h => by rw [okB] at h; exact h.elim
  | f + 1, s :: ss, h => by
    rw [okB] at h
    have h1 := hgt_S h.1
    have h2 := hgt_B h.2
    rw [dB, hgts]; omega
end
theorem toD_dP {S : Sto} {col : Bool} {bd : List Stm} (h : okB col 4 bd) : toD 60 S (tv (dP col bd)) = some (dP col bd) := by
  refine toD_tv ?_ ?_
  · unfold dP; simp only [noL, noLs, noL_B, Bool.and_self]
  · have := hgt_B h
    unfold dP; simp only [hgt, hgts]; omega
theorem szS_pos (s : Stm) : 1 ≤ szS s := by
  cases s <;> first | exact Nat.le_refl 1 | (rw [szS]; omega)
theorem sm_T (t : Tm) : Sm (dT t) := by
  cases t
  · exact .str _
  · exact .int _
theorem sm_C (c : Cd) : Sm (dC c) := .tuple (by simp) (all3 (.str _) (.str _) (sm_T _))
mutual
theorem sm_S : ∀ {s : Stm}, szS s ≤ 10000 → Sm (dS s)
  | .wait n, _ => by rw [dS]; exact .tuple (by simp) (all2 (.str _) (.int _))
  | .set x n, _ => by rw [dS]; exact .tuple (by simp) (all3 (.str _) (.str _) (.int _))
  | .add x t, _ => by rw [dS]; exact .tuple (by simp) (all3 (.str _) (.str _) (sm_T _))
  | .ask s t x, _ => by rw [dS]; exact .tuple (by simp) (all4 (.str _) (.str _) (sm_T _) (.str _))
  | .answer n, _ => by rw [dS]; exact .tuple (by simp) (all2 (.str _) (.int _))
  | .grow t, _ => by rw [dS]; exact .tuple (by simp) (all2 (.str _) (sm_T _))
  | .list t, _ => by rw [dS]; exact .tuple (by simp) (all2 (.str _) (sm_T _))
  | .whl c b, h => by
    rw [szS] at h
    obtain ⟨h1, h2⟩ := sm_B (b := b) (by omega)
    rw [dS]; exact .tuple (by simp) (all3 (.str _) (sm_C _) (.tuple (by omega) h2))
  | .ite c b d, h => by
    rw [szS] at h
    obtain ⟨h1, h2⟩ := sm_B (b := b) (by omega)
    obtain ⟨h3, h4⟩ := sm_B (b := d) (by omega)
    rw [dS]; exact .tuple (by simp) (all4 (.str _) (sm_C _) (.tuple (by omega) h2) (.tuple (by omega) h4))
theorem sm_B : ∀ {b : List Stm}, szB b ≤ 10000 → (dB b).length ≤ szB b ∧ ∀ x, x ∈ dB b → Sm x
  | [], _ => by rw [dB]; exact ⟨Nat.zero_le _, fun x hx => absurd hx List.not_mem_nil⟩
  | s :: ss, h => by
    have hs : 1 ≤ szS s := szS_pos s
    rw [szB] at h
    obtain ⟨h1, h2⟩ := sm_B (b := ss) (by omega)
    refine ⟨by rw [dB, szB, List.length_cons]; omega, fun x hx => ?_⟩
    rw [dB] at hx
    rcases List.mem_cons.mp hx with rfl | hx
    · exact sm_S (by omega)
    · exact h2 x hx
end
theorem sm_dP {col : Bool} {bd : List Stm} (hs : szB bd ≤ 10000) : Sm (dP col bd) := by
  obtain ⟨h1, h2⟩ := sm_B hs
  exact .tuple (by simp) (all2 (.str _) (.tuple (by omega) h2))

/-! ### k47: the greatest numbers of acts -/
def kS (t : Bool) : Str := if t = true then "teller" else "collector"
def addD (ds : List Int) (t : Bool) : List Int := ds ++ [if t = true then 1 + ds.sum else 1]
def dueD (ts : List Bool) : List Int := ts.foldl addD []
def DOk (n : Nat) (ds : List Int) : Prop := ds.length = n ∧ 0 ≤ ds.sum ∧ ds.sum < 2 ^ n ∧ ∀ d ∈ ds, 0 ≤ d ∧ d < 2 ^ n
theorem two_pos (n : Nat) : (0 : Int) < 2 ^ n := by
  have h : 0 < 2 ^ n := Nat.pow_pos (by decide)
  have e : (2 : Int) ^ n = ((2 ^ n : Nat) : Int) := by rw [Int.natCast_pow]; rfl
  rw [e]; omega
theorem addD_ok {n : Nat} {ds : List Int} {t : Bool} (h : DOk n ds) : DOk (n + 1) (addD ds t) := by
  obtain ⟨h0, h1, h2, h3⟩ := h
  have hp := two_pos n
  have e : (2 : Int) ^ (n + 1) = 2 ^ n * 2 := Int.pow_succ _ _
  have hs : (addD ds t).sum = ds.sum + (if t = true then 1 + ds.sum else 1) := by
    unfold addD
    rw [List.sum_append_int, List.sum_singleton]
  refine ⟨by unfold addD; rw [List.length_append, h0]; rfl, ?_, ?_, fun d hd => ?_⟩
  · rw [hs]; cases t <;> simp <;> omega
  · rw [hs, e]; cases t <;> simp <;> omega
  · rw [e]
    unfold addD at hd
    rcases List.mem_append.mp hd with hd | hd
    · have := h3 d hd; omega
    · rw [List.mem_singleton.mp hd]
      cases t <;> simp <;> omega
theorem dueD_take {ts : List Bool} {i : Nat} {t : Bool} (h : ts[i]? = some t) : dueD (ts.take (i + 1)) = addD (dueD (ts.take i)) t := by
  unfold dueD
  rw [List.take_add_one, h]
  simp [List.foldl_append]
theorem dueD_ok : ∀ (ts : List Bool) (i : Nat), i ≤ ts.length → DOk i (dueD (ts.take i))
  | ts, 0, _ => ⟨rfl, by simp [dueD], by simp [dueD], fun d hd => by simp [dueD] at hd⟩
  | ts, i + 1, h => by
    have hx : ts[i]? = some ts[i] := List.getElem?_eq_getElem (by omega)
    rw [dueD_take hx]
    exact addD_ok (dueD_ok ts i (by omega))
theorem toIntsM : ∀ l : List Int, toInts (l.map Vl.int) = some l
  | [] => rfl
  | a :: l => by rw [List.map_cons, toInts, toIntsM l]; rfl
theorem sumM {T : Sto} {j : Nat} {ds : List Int} (h : T[j]? = some (.lst (ds.map Vl.int))) : vSum [.ref j] T = .ok (.int ds.sum) T := by
  unfold vSum
  dsimp only
  rw [h]
  dsimp only
  rw [toIntsM]
theorem most_ok {φ i : Nat} {S : Sto} {ts : List Bool} (hi : S[i]? = some (.lst (ts.map fun t => .str (kS t)))) (hn : ts.length ≤ 1000) : ∃ S', m_most_acts φ [.ref i] S = .ok (.ref S.length) S' ∧ S'[S.length]? = some (.lst ((dueD ts).map .int)) ∧ Kp [] S S' := by
  have hil := get_lt hi
  have hle : (ts.map fun t => Vl.str (kS t)).length = ts.length := List.length_map _
  obtain ⟨e, S', h1, e2, rfl, h3, k3⟩ := forZ_inv (I := itL i (ts.map fun t => Vl.str (kS t)).length) (g := gmName 2) (f := l1_most_acts φ) (ts.map fun t => .str (kS t))
    (fun n env T => ∃ e2, env = [some (.ref i), some (.ref S.length), e2] ∧ T[S.length]? = some (.lst ((dueD (ts.take n)).map .int)) ∧ Kp [] S T)
    (fun n env T ⟨_, _, _, k⟩ => nxt_L (k.get hi List.not_mem_nil))
    (fun n x env T hx ⟨e2, he, hT, k⟩ => by
      subst he
      rw [List.getElem?_map] at hx
      obtain ⟨t, ht, rfl⟩ := Option.map_eq_some_iff.mp hx
      have hnl := (List.getElem?_eq_some_iff.mp ht).1
      have ok := dueD_ok ts n (by omega)
      have hd : decide (kS t = "teller") = t := by cases t <;> decide +kernel
      have hl : (dueD (ts.take n)).length < 90000 := by rw [ok.1]; omega
      have k2 : Kp [] S (T.set S.length (.lst ((addD (dueD (ts.take n)) t).map .int))) := Kp.late k (Kp.set (ids := [S.length]) (by simp)) fun q hq => .inr (by simp at hq; omega)
      refine ⟨[some (.ref i), some (.ref S.length), some (.str (kS t))], T, [some (.ref i), some (.ref S.length), some (.str (kS t))], T.set S.length (.lst ((addD (dueD (ts.take n)) t).map .int)), rfl, .inl ?_, some (.str (kS t)), rfl, by rw [dueD_take ht]; exact get_set hT, k2⟩
      unfold addD
      generalize dueD (ts.take n) = ds at *
      have hti := sumM hT
      have hl2 : (ds.map Vl.int).length < 100000 := by rw [List.length_map]; omega
      rw [List.map_append, List.map_singleton]
      generalize kS t = z at *
      cases t <;> simp! only [l1_most_acts, hT, hd, hti, hl2])
    (ts.map fun t => Vl.str (kS t)).length 0 [some (.ref i), some (.ref S.length), none] (S ++ [.lst []]) (by omega) (by omega) ⟨none, rfl, get_new, .app⟩
  refine ⟨S', ?_, ?_, k3⟩
  · have hi2 := get_app (T := [Ob.lst []]) hi
    generalize hS1 : S ++ [Ob.lst []] = S1 at *
    generalize (ts.map fun t => Vl.str (kS t)) = L at *
    simp! only [m_most_acts, b_most_acts, hS1, hi2, h1]
  · rw [h3, hle, List.take_length]

/-! ### k47: the kinds, what is due -/
def kL (ts : List Bool) : List Vl := ts.map fun t => .str (kS t)
section
variable {φ b k i j : Nat} {S : Sto} {ns : List Int} {m Z : Int} {ts : List Bool}
theorem kinds_ok (hφ : 12 < φ) (hb : Pu S b Z) (hZ : Z ≤ 1000) (hm0 : 0 ≤ m) (hm : m ≤ 201) :
    ∃ (ts : List Bool) (S' : Sto), c1_law φ [some (.scr ns), some (.ref b), some (.int m), none, none, none, none, none, none, none, none, none, none, none, none] S = .ok (.ref S.length) S' ∧ S'[S.length]? = some (.lst (kL ts)) ∧ ts.length = m.toNat ∧ Kp [b] S S' ∧ Pu S' b (Z + 7 * 201) := by
  have hmr : -4611686018427387904 ≤ m ∧ m < 4611686018427387904 := by omega
  have hbl := hb.lt
  obtain ⟨ys, S', h1, ts, hy, hl, hD, hk, hb2⟩ := lc_inv (I := itR 0 m.toNat) (it := iRange1 (aCons (xVar 2) aNil)) (k := 12) (t := yYes) (e := (xOp vIx (xLst (aCons (xC (.str "teller")) (aCons (xC (.str "collector")) aNil))) (xCB vInt (aCons (xOp vEq (xCall 2 2 (fun xs _ => xs) 0 (m__law_take φ) (bArgs (aCons (xVar 1) (aCons (xC (.int 4)) aNil)) aNil)) (xC (.int 0))) aNil)))) (vs := [12]) (env := [some (.scr ns), some (.ref b), some (.int m), none, none, none, none, none, none, none, none, none, none, none, none]) (env' := [some (.scr ns), some (.ref b), some (.int m), none, none, none, none, none, none, none, none, none, none, none, none]) (S := S) (S1 := S) (rngL 0 m.toNat)
    (fun i ys T => ∃ ts : List Bool, ys = kL ts ∧ ts.length = i ∧ T[S.length]? = some (.lst ys) ∧ Kp [b] S T ∧ Pu T b (Z + 7 * i))
    (by simp! only [hmr]) rfl (by rw [rngL_len]; rfl) (fun _ _ _ _ => nxt_R)
    (fun i x ys T hx ⟨ts, hy, hl, hD, hk, hbb⟩ => by
      obtain ⟨hi, rfl⟩ := rngL_get hx
      have hi2 : i < 201 := by omega
      have n1 : (T ++ [Ob.lst [.str "teller", .str "collector"]])[T.length]? = some (.lst [.str "teller", .str "collector"]) := get_new
      have k1 : Kp [b] T (T ++ [Ob.lst [.str "teller", .str "collector"]]) := .app
      have b1 : Pu (T ++ [Ob.lst [.str "teller", .str "collector"]]) b (Z + 7 * i) := hbb.app
      have hTl := hbb.lt
      generalize hT1 : T ++ [Ob.lst [.str "teller", .str "collector"]] = T1 at *
      obtain ⟨r, T2, g1, g2, g3, g4, g5⟩ := take_ok (φ := φ) (m := 4) hφ b1 (by omega) (by omega) (by omega)
      have n2 := g2.get n1 (ni1 (by omega))
      have gD := (k1.trans g2).get hD (ni1 (by omega))
      have hat : atI [Vl.str "teller", .str "collector"] (if r = 0 then (1 : Int) else 0) = some (.str (kS (!decide (r = 0)))) := by
        by_cases h : r = 0
        · rw [decide_eq_true h, if_pos h]; exact atI_nat (j := 1) rfl
        · rw [decide_eq_false h, if_neg h]; exact atI_nat (j := 0) rfl
      refine ⟨true, T, rfl, .inr ⟨rfl, .str (kS (!decide (r = 0))), T2, ?_, gD, by rw [hy]; unfold kL; rw [List.length_map, hl]; omega, ts ++ [!decide (r = 0)], by rw [hy]; unfold kL; rw [List.map_append]; rfl, by rw [List.length_append, hl]; rfl, get_set gD, ((hk.trans k1).trans g2).late (Kp.set (i := S.length) (List.mem_singleton.mpr rfl)) (fun z hz => by rw [List.mem_singleton.mp hz]; right; omega), ?_⟩⟩
      · generalize kS (!decide (r = 0)) = z at *
        simp! only [hT1, g1, n2, hat]
      · have := (g3.kp (Kp.set (ids := [S.length]) (i := S.length) (o := Ob.lst (ys ++ [Vl.str (kS (!decide (r = 0)))])) (by simp)) (ni1 (by omega)))
        exact this.mono (by push_cast; omega))
    ⟨[], rfl, rfl, get_new, .app, (hb.app).mono (by simp)⟩
  rw [rngL_len] at hl hb2
  exact ⟨ts, S', h1, by rw [← hy]; exact hD, hl, hk, hb2.mono (by omega)⟩
theorem lawA (hφ : 12 < φ) (rest : ZS) : ∃ (b k : Nat) (m : Int) (ts : List Bool) (S' : Sto), (zSeq (zAsg (xCall 2 2 (fun xs _ => xs) 0 (m__law_purse φ) (bArgs (aCons (xVar 0) (aCons (xC (.int 0)) aNil)) aNil)) (gmName 1)) (zSeq (zAsg (xCall 2 2 (fun xs _ => xs) 0 (m__law_take φ) (bArgs (aCons (xVar 1) (aCons (xOp vIx (xLst (aCons (xC (.int 5)) (aCons (xC (.int 201)) aNil))) (xCall 2 2 (fun xs _ => xs) 0 (m__law_take φ) (bArgs (aCons (xVar 1) (aCons (xC (.int 2)) aNil)) aNil))) aNil)) aNil)) (gmName 2)) (zSeq (zAsg (c1_law φ) (gmName 3)) rest))) [some (.scr ns), none, none, none, none, none, none, none, none, none, none, none, none, none, none] S = rest [some (.scr ns), some (.ref b), some (.int m), some (.ref k), none, none, none, none, none, none, none, none, none, none, none] S' ∧ S'[k]? = some (.lst (kL ts)) ∧ ts.length ≤ 201 := by
  obtain ⟨x, y, h1, y1, y2⟩ := purse_ok (φ := φ) (k := 0) (S := S) (ns := ns) (by omega)
  have h1 : m__law_purse φ [.scr ns, .int 0] S = .ok (.ref S.length) (S ++ [.lst [.int x, .int y, .int 0]]) := h1
  have b1 : Pu (S ++ [Ob.lst [.int x, .int y, .int 0]]) S.length 0 := ⟨x, y, 0, get_new, y1, y2, by omega, by omega⟩
  generalize hS1 : S ++ [Ob.lst [.int x, .int y, .int 0]] = S1 at *
  have n2 : (S1 ++ [Ob.lst [.int 5, .int 201]])[S1.length]? = some (.lst [.int 5, .int 201]) := get_new
  have b2 : Pu (S1 ++ [Ob.lst [.int 5, .int 201]]) S.length 0 := b1.app
  have hb1 := b1.lt
  generalize hS2 : S1 ++ [Ob.lst [.int 5, .int 201]] = S2 at *
  obtain ⟨r, S3, q3, k3, b3, ra, rb⟩ := take_ok (φ := φ) (m := 2) hφ b2 (by omega) (by omega) (by omega)
  have n3 := k3.get n2 (ni1 (by omega))
  obtain ⟨w, hat, w1, w2⟩ : ∃ w : Int, atI [Vl.int 5, .int 201] r = some (.int w) ∧ 0 < w ∧ w ≤ 201 := by
    rcases (show r = 0 ∨ r = 1 by omega) with rfl | rfl
    · exact ⟨5, atI_nat (j := 0) rfl, by omega, by omega⟩
    · exact ⟨201, atI_nat (j := 1) rfl, by omega, by omega⟩
  obtain ⟨m, S4, q4, k4, b4, ma, mb⟩ := take_ok (φ := φ) (m := w) hφ b3 w1 (by omega) (by omega)
  obtain ⟨ts, S5, q5, g5, l5, k5, b5⟩ := kinds_ok (φ := φ) (S := S4) (ns := ns) (m := m) hφ b4 (by omega) ma (by omega)
  refine ⟨S.length, S4.length, m, ts, S5, ?_, g5, by omega⟩
  generalize hcc : c1_law φ = CC at *
  clear hcc
  simp! only [h1, hS2, q3, n3, hat, q4, q5]
end

/-! ### k47: texts of lists of integers -/
theorem textFrom_le : ∀ (ts : List Str) (k : Nat) (acc : Str), (textFrom k acc ts).length ≤ acc.length + (ts.map fun t => t.length + 2).sum
  | [], k, acc => by
    show acc.length ≤ _
    omega
  | t :: r, k, acc => by
    have ih := textFrom_le r (k + 1) (acc ++ (if k > 0 then ", " else "" : String) ++ t)
    have e1 : ((if k > 0 then ", " else "" : String) : Str).length ≤ 2 := by
      split
      · exact Nat.le_of_eq (by decide +kernel)
      · exact Nat.le_trans (Nat.le_of_eq (by decide +kernel)) (by decide : 0 ≤ 2)
    have e2 : (acc ++ (if k > 0 then ", " else "" : String) ++ t).length = acc.length + ((if k > 0 then ", " else "" : String) : Str).length + t.length := by
      rw [Str.length_append, Str.length_append]
    rw [List.map_cons, List.sum_cons]
    show (textFrom (k + 1) (acc ++ (if k > 0 then ", " else "" : String) ++ t) r).length ≤ _
    omega
theorem shownAll_map : ∀ xs : List PyData, PyData.shownAll xs = xs.map PyData.shown
  | [] => by rw [PyData.shownAll]; rfl
  | x :: xs => by rw [PyData.shownAll, shownAll_map xs]; rfl
theorem showAll_ok : ∀ ds : List Int, (∀ d ∈ ds, d.natAbs.log2 < 1920) → PyData.showableAll (ds.map .int) = true ∧ PyData.hasDictAll (ds.map .int) = false ∧ PyData.depthAll (ds.map .int) = 0
  | [], _ => ⟨by simp only [List.map_nil, PyData.showableAll], by simp only [List.map_nil, PyData.hasDictAll], by simp only [List.map_nil, PyData.depthAll]⟩
  | d :: ds, h => by
    obtain ⟨h1, h2, h3⟩ := showAll_ok ds fun x hx => h x (List.mem_cons_of_mem _ hx)
    have hd := h d (List.mem_cons_self)
    refine ⟨?_, ?_, ?_⟩
    · rw [List.map_cons, PyData.showableAll, h1, PyData.showable, Bool.and_true]
      exact decide_eq_true hd
    · rw [List.map_cons, PyData.hasDictAll, h2, PyData.hasDict]; rfl
    · rw [List.map_cons, PyData.depthAll, h3, PyData.depth]; rfl
theorem sum_leM {α : Type} {N : Nat} {f : α → Nat} : ∀ {l : List α}, (∀ x ∈ l, f x ≤ N) → (l.map f).sum ≤ N * l.length
  | [], _ => by simp
  | a :: l, h => by
    have h1 := h a List.mem_cons_self
    have h2 := sum_leM (l := l) fun x hx => h x (List.mem_cons_of_mem _ hx)
    rw [List.map_cons, List.sum_cons, List.length_cons, Nat.mul_succ]
    omega
theorem toD_intsM {T : Sto} {j : Nat} {ds : List Int} (h : T[j]? = some (.lst (ds.map .int))) : toD 60 T (.ref j) = some (.list (ds.map .int)) := by
  show (match T[j]? with
    | some (.lst xs) => (allD (toD 59 T) xs).map PyData.list
    | _ => none) = _
  rw [h]
  show (allD (toD 59 T) (ds.map Vl.int)).map PyData.list = _
  rw [show allD (toD 59 T) (ds.map Vl.int) = some (ds.map .int) from allD_int]
  rfl
def shI (ds : List Int) : Str := PyData.shown (.list (ds.map .int))
theorem repr_ints {T : Sto} {j : Nat} {ds : List Int} (h : T[j]? = some (.lst (ds.map .int))) (hl : ds.length ≤ 1000) (hd : ∀ d ∈ ds, d.natAbs.log2 < 1920) : vRepr [.ref j] T = .ok (.str (shI ds)) T := by
  obtain ⟨h1, h2, h3⟩ := showAll_ok ds hd
  have hsz : (PyData.shown (.list (ds.map .int))).length ≤ sizeLine := by
    rw [PyData.shown, shownAll_map]
    unfold listText
    rw [Str.length_append]
    have a1 := textFrom_le ((ds.map PyData.int).map PyData.shown) 0 "["
    have a2 : ((((ds.map PyData.int).map PyData.shown)).map fun t => t.length + 2).sum ≤ 1923 * (((ds.map PyData.int).map PyData.shown)).length := sum_leM fun t ht => by
      rw [List.map_map] at ht
      obtain ⟨d, hm, rfl⟩ := List.mem_map.mp ht
      have := int_text_length_le (a := d) (k := 1920) (by decide) (hd d hm)
      show (PyData.shown (.int d)).length + 2 ≤ 1923
      rw [PyData.shown]
      have e := PySem.ofString_length (toString d)
      omega
    rw [List.length_map, List.length_map] at a2
    have a3 : ("[" : Str).length = 1 := by decide +kernel
    have a4 : ("]" : Str).length = 1 := by decide +kernel
    have a5 : (2000000 : Nat) ≤ sizeLine := by decide
    omega
  unfold vRepr
  dsimp only
  rw [toD_intsM h]
  dsimp only
  rw [if_pos ⟨by rw [PyData.showable]; exact h1, by rw [PyData.hasDict]; exact h2, by rw [PyData.depth, h3]; decide, hsz⟩]
  rfl
theorem small_log {d : Int} {n : Nat} (h0 : 0 ≤ d) (h1 : d < 2 ^ n) (hn : n ≤ 1000) : d.natAbs.log2 < 1920 := by
  obtain ⟨k, rfl⟩ := Int.eq_ofNat_of_zero_le h0
  rw [Int.natAbs_natCast]
  have h2 : k < 2 ^ n := by
    have : ((k : Nat) : Int) < ((2 ^ n : Nat) : Int) := by rw [Int.natCast_pow]; exact h1
    exact Int.ofNat_lt.mp this
  by_cases hk : k = 0
  · subst hk; decide
  · exact Nat.lt_of_lt_of_le ((Nat.log2_lt hk).mpr h2) (by omega)
theorem alike_ok {φ i j : Nat} {T : Sto} {ds : List Int} (h1 : T[i]? = some (.lst (ds.map .int))) (h2 : T[j]? = some (.lst (ds.map .int))) (hl : ds.length ≤ 1000) (hd : ∀ d ∈ ds, d.natAbs.log2 < 1920) : m__law_alike φ [.ref i, .ref j] T = .ok (.bl true) T := by
  have r1 := repr_ints h1 hl hd
  have r2 := repr_ints h2 hl hd
  have q : decide (shI ds = shI ds) = true := decide_eq_true rfl
  generalize shI ds = z at *
  simp! only [m__law_alike, b__law_alike, r1, r2, q]
theorem due_small {ts : List Bool} (h : ts.length ≤ 201) : (dueD ts).length ≤ 1000 ∧ ∀ d ∈ dueD ts, d.natAbs.log2 < 1920 := by
  have ok := dueD_ok ts ts.length (Nat.le_refl _)
  rw [List.take_length] at ok
  exact ⟨by rw [ok.1]; omega, fun d hd => small_log (ok.2.2.2 d hd).1 (ok.2.2.2 d hd).2 (by omega)⟩
/-! lists of texts -/
theorem allD_strs {n : Nat} {S : Sto} : ∀ (zs : List Str), allD (toD (n + 1) S) (zs.map Vl.str) = some (zs.map PyData.str)
  | [] => rfl
  | z :: zs => by
    rw [List.map_cons, List.map_cons, allD, allD_strs zs]
    rfl
theorem eqvA_str : ∀ zs : List Str, PyData.eqvAll (zs.map .str) (zs.map .str) = true
  | [] => by rw [List.map_nil, PyData.eqvAll]
  | z :: zs => by
    rw [List.map_cons, PyData.eqvAll, eqvA_str zs, Bool.and_true, PyData.eqv]
    exact decide_eq_true rfl
theorem ne_strs {T : Sto} {i j : Nat} {zs : List Str} (h1 : T[i]? = some (.lst (zs.map .str))) (h2 : T[j]? = some (.lst (zs.map .str))) : vNe (.ref i) (.ref j) T = .ok (.bl false) T := by
  have e : ∀ i : Nat, T[i]? = some (.lst (zs.map .str)) → toD 60 T (.ref i) = some (.list (zs.map .str)) := fun i h => by
    show (match T[i]? with
      | some (.lst xs) => (allD (toD 59 T) xs).map PyData.list
      | _ => none) = _
    rw [h]
    show (allD (toD 59 T) (zs.map Vl.str)).map PyData.list = _
    rw [allD_strs]; rfl
  unfold vNe
  rw [e i h1, e j h2]
  dsimp only
  rw [PyData.eqv, eqvA_str]; rfl
theorem kL_map {ts : List Bool} : kL ts = (ts.map kS).map Vl.str := by
  unfold kL
  rw [List.map_map]; rfl

/-! ### k47: what is due, most_acts -/
section
variable {φ b k : Nat} {S : Sto} {ns : List Int} {m : Int} {ts : List Bool}
theorem dueLoop {h4 j : Nat} {e6 : Option Vl} (hk : S[k]? = some (.lst (kL ts))) (hj : S[j]? = some (.lst [])) (hkj : k ≠ j) (hn : ts.length ≤ 201) (hne : ts ≠ [] ∨ e6 = none) :
    ∃ (e6' : Option Vl) (S' : Sto), forZ (itL k (kL ts).length) (gmName 6) (l1_law φ) (kL ts).length 0 [some (.scr ns), some (.ref b), some (.int m), some (.ref k), some (.ref h4), some (.ref j), e6, none, none, none, none, none, none, none, none] S = .ok (.nx [some (.scr ns), some (.ref b), some (.int m), some (.ref k), some (.ref h4), some (.ref j), e6', none, none, none, none, none, none, none, none]) S' ∧ S'[j]? = some (.lst ((dueD ts).map .int)) ∧ Kp [j] S S' := by
  have hle : (kL ts).length = ts.length := List.length_map _
  obtain ⟨e, S', h1, e6', rfl, h3, k3⟩ := forZ_inv (I := itL k (kL ts).length) (g := gmName 6) (f := l1_law φ) (kL ts)
    (fun n env T => ∃ e6, env = [some (.scr ns), some (.ref b), some (.int m), some (.ref k), some (.ref h4), some (.ref j), e6, none, none, none, none, none, none, none, none] ∧ T[j]? = some (.lst ((dueD (ts.take n)).map .int)) ∧ Kp [j] S T)
    (fun n env T ⟨_, _, _, kk⟩ => nxt_L (kk.get hk (ni1 hkj)))
    (fun n x env T hx ⟨e6, he, hT, kk⟩ => by
      subst he
      unfold kL at hx
      rw [List.getElem?_map] at hx
      obtain ⟨t, ht, rfl⟩ := Option.map_eq_some_iff.mp hx
      have hnl := (List.getElem?_eq_some_iff.mp ht).1
      have ok := dueD_ok ts n (by omega)
      have hd : decide (kS t = "teller") = t := by cases t <;> decide +kernel
      have hl : (dueD (ts.take n)).length < 90000 := by rw [ok.1]; omega
      have k2 : Kp [j] S (T.set j (.lst ((addD (dueD (ts.take n)) t).map .int))) := kk.trans (Kp.set (by simp))
      refine ⟨[some (.scr ns), some (.ref b), some (.int m), some (.ref k), some (.ref h4), some (.ref j), some (.str (kS t)), none, none, none, none, none, none, none, none], T, [some (.scr ns), some (.ref b), some (.int m), some (.ref k), some (.ref h4), some (.ref j), some (.str (kS t)), none, none, none, none, none, none, none, none], T.set j (.lst ((addD (dueD (ts.take n)) t).map .int)), rfl, .inl ?_, some (.str (kS t)), rfl, by rw [dueD_take ht]; exact get_set hT, k2⟩
      unfold addD
      generalize dueD (ts.take n) = ds at *
      have hti := sumM hT
      have hl2 : (ds.map Vl.int).length < 100000 := by rw [List.length_map]; omega
      rw [List.map_append, List.map_singleton]
      generalize kS t = z at *
      have c1 : (-18446744073709551616 : Int) < 1 ∧ (1 : Int) < 18446744073709551616 := by omega
      have c0 : (-18446744073709551616 : Int) < 0 ∧ (0 : Int) < 18446744073709551616 := by omega
      cases t <;> simp! only [l1_law, hT, hd, hti, hl2, c0, c1, Int.mul_one, Int.mul_zero, Int.add_zero])
    (kL ts).length 0 [some (.scr ns), some (.ref b), some (.int m), some (.ref k), some (.ref h4), some (.ref j), e6, none, none, none, none, none, none, none, none] S (by omega) (by omega) ⟨e6, rfl, hj, Kp.refl⟩
  refine ⟨e6', S', h1, ?_, k3⟩
  rw [h3, hle, List.take_length]
theorem lawB (hk : S[k]? = some (.lst (kL ts))) (hn : ts.length ≤ 201) (rest : ZS) : ∃ (e6 e7 : Option Vl) (h4 j : Nat) (S' : Sto), (zSeq (zPar 4 5 (xCB vList (aCons (xVar 3) aNil)) (xLst aNil)) (zSeq (zFor (iAny (xVar 3)) (gmName 6) (l1_law φ)) (zSeq (zAsg (xCall 1 1 (fun xs _ => xs) 0 (m_most_acts φ) (bArgs (aCons (xVar 4) aNil) aNil)) (gmName 7)) (zSeq (zIf (yOr (yNot (yV (xCall 2 2 (fun xs _ => xs) 0 (m__law_alike φ) (bArgs (aCons (xVar 7) (aCons (xVar 5) aNil)) aNil)))) (yCmp vNe (xVar 4) (xVar 3))) (zSeq (zRet (xC (.bl false))) zNil) zNil) (zSeq (zDrop (xBM "list" mAppend (xVar 7) (aCons (xC (.int 0)) aNil))) (zSeq (zIf (yOr (yNot (yV (xCall 2 2 (fun xs _ => xs) 0 (m__law_alike φ) (bArgs (aCons (xCall 1 1 (fun xs _ => xs) 0 (m_most_acts φ) (bArgs (aCons (xVar 4) aNil) aNil)) (aCons (xVar 5) aNil)) aNil)))) (yOr (yCmp vNe (xCall 1 1 (fun xs _ => xs) 0 (m_most_acts φ) (bArgs (aCons (xLst aNil) aNil) aNil)) (xLst aNil)) (yCmp vNe (xCall 1 1 (fun xs _ => xs) 0 (m_most_acts φ) (bArgs (aCons (xLst (aCons (xC (.str "teller")) (aCons (xC (.str "teller")) aNil))) aNil) aNil)) (xLst (aCons (xC (.int 1)) (aCons (xC (.int 2)) aNil)))))) (zSeq (zRet (xC (.bl false))) zNil) zNil) rest)))))) [some (.scr ns), some (.ref b), some (.int m), some (.ref k), none, none, none, none, none, none, none, none, none, none, none] S = rest [some (.scr ns), some (.ref b), some (.int m), some (.ref k), some (.ref h4), some (.ref j), e6, e7, none, none, none, none, none, none, none] S' := by
  have n1 : (S ++ [Ob.lst (kL ts)])[S.length]? = some (.lst (kL ts)) := get_new
  have hk1 := get_app (T := [Ob.lst (kL ts)]) hk
  have hkl := get_lt hk
  generalize hS1 : S ++ [Ob.lst (kL ts)] = S1 at *
  have hkl1 := get_lt hk1
  have n2 : (S1 ++ [Ob.lst []])[S1.length]? = some (.lst []) := get_new
  have n12 := get_app (T := [Ob.lst []]) n1
  have hk2 := get_app (T := [Ob.lst []]) hk1
  have hn1l := get_lt n1
  generalize hS2 : S1 ++ [Ob.lst []] = S2 at *
  obtain ⟨e6, S3, q3, g3, k3⟩ := dueLoop (φ := φ) (b := b) (k := k) (ns := ns) (m := m) (h4 := S.length) (e6 := none) hk2 n2 (by omega) hn (.inr rfl)
  have n13 := k3.get n12 (ni1 (by omega))
  have hk3 := k3.get hk2 (ni1 (by omega))
  obtain ⟨S4, q4, g4, k4⟩ := most_ok (φ := φ) (S := S3) (ts := ts) n13 (by omega)
  obtain ⟨d1, d2⟩ := due_small hn
  have g34 := k4.get g3 (by simp)
  have n14 := k4.get n13 (by simp)
  have hk4 := k4.get hk3 (by simp)
  have al1 := alike_ok (φ := φ) g4 g34 d1 d2
  have kk : kL ts = (ts.map kS).map Vl.str := kL_map
  have ne1 : vNe (.ref S.length) (.ref k) S4 = .ok (.bl false) S4 := ne_strs (zs := ts.map kS) (by rw [← kk]; exact n14) (by rw [← kk]; exact hk4)
  have d1' : ((dueD ts).map Vl.int).length < 100000 := by rw [List.length_map]; omega
  have k5 : Kp [S3.length] S4 (S4.set S3.length (.lst ((dueD ts).map Vl.int ++ [.int 0]))) := Kp.set (by simp)
  have g35 := k5.get g34 (ni1 (by have := get_lt g3; omega))
  have n15 := k5.get n14 (ni1 (by have := get_lt n13; omega))
  generalize hS5 : S4.set S3.length (.lst ((dueD ts).map Vl.int ++ [.int 0])) = S5 at *
  obtain ⟨S6, q6, g6, k6⟩ := most_ok (φ := φ) (S := S5) (ts := ts) n15 (by omega)
  have g36 := k6.get g35 (by simp)
  have al2 := alike_ok (φ := φ) g6 g36 d1 d2
  -- most_acts([])
  have n7 : (S6 ++ [Ob.lst []])[S6.length]? = some (.lst ([].map fun t => .str (kS t))) := get_new
  generalize hS7 : S6 ++ [Ob.lst []] = S7 at *
  obtain ⟨S8, q8, g8, k8⟩ := most_ok (φ := φ) (S := S7) (ts := []) n7 (by simp)
  have n9 : (S8 ++ [Ob.lst []])[S8.length]? = some (.lst (([] : List Int).map .int)) := get_new
  have g89 : (S8 ++ [Ob.lst []])[S7.length]? = some (.lst (([] : List Int).map .int)) := get_app g8
  have ne2 := vNe_li g89 n9
  generalize hS9 : S8 ++ [Ob.lst []] = S9 at *
  -- most_acts(["teller", "teller"])
  have na : (S9 ++ [Ob.lst [.str "teller", .str "teller"]])[S9.length]? = some (.lst ([true, true].map fun t => .str (kS t))) := get_new
  generalize hSa : S9 ++ [Ob.lst [.str "teller", .str "teller"]] = Sa at *
  obtain ⟨Sb, qb, gb, kb⟩ := most_ok (φ := φ) (S := Sa) (ts := [true, true]) na (by simp)
  have nc : (Sb ++ [Ob.lst [.int 1, .int 2]])[Sb.length]? = some (.lst (([1, 2] : List Int).map .int)) := get_new
  have gbc : (Sb ++ [Ob.lst [.int 1, .int 2]])[Sa.length]? = some (.lst ((dueD [true, true]).map .int)) := get_app gb
  have ne3 := vNe_li gbc nc
  rw [show dueD [true, true] = [1, 2] from rfl] at ne3
  generalize hSc : Sb ++ [Ob.lst [.int 1, .int 2]] = Sc at *
  have t2 : (!decide (([] : List Int) = [])) = false := rfl
  have t3 : (!decide (([1, 2] : List Int) = [1, 2])) = false := rfl
  rw [t2] at ne2
  rw [t3] at ne3
  refine ⟨e6, some (.ref S3.length), S.length, S1.length, Sc, ?_⟩
  clear kk
  generalize (dueD ts).map Vl.int = D at *
  generalize kL ts = L at *
  simp! only [hk, hS1, hS2, hk2, q3, q4, al1, ne1, g4, d1', hS5, q6, al2, hS7, q8, hS9, ne2, hSa, qb, hSc, ne3]
end

/-! ### a new house -/
def kvL (l r : Nat) : List (Key × Vl) := [(.inr "left", .ref l), (.inr "right", .ref r)]
theorem mrg2 {a b : Vl} : List.foldl (fun acc (kv : Key × Vl) => setK acc kv.fst kv.snd) [] [(Sum.inr (Str.ofString "left"), a), (Sum.inr (Str.ofString "right"), b)] = [(Sum.inr (Str.ofString "left"), a), (Sum.inr (Str.ofString "right"), b)] := by
  have h : ((Sum.inr (Str.ofString "left") : Key) == Sum.inr (Str.ofString "right")) = false := by decide +kernel
  have h2 : ((Sum.inr (Str.ofString "right") : Key) == Sum.inr (Str.ofString "left")) = false := by decide +kernel
  have h3 : ¬ (Sum.inr (Str.ofString "left") : Key) = Sum.inr (Str.ofString "right") := by decide +kernel
  have h4 : ¬ (Sum.inr (Str.ofString "right") : Key) = Sum.inr (Str.ofString "left") := by decide +kernel
  simp [List.foldl_cons, List.foldl_nil, setK, h, h2, h3, h4]
def fsS (n now : Int) (d ms : Nat) (k : Int) : List (Nat × Vl) := [(37, .int n), (38, .int now), (39, .ref d), (40, .ref ms), (41, .int k)]
theorem state_mk {φ : Nat} {S : Sto} : m_State___init__ φ [.ref S.length] (S ++ [.ins 58 []]) = .ok .non (S ++ [.ins 58 (fsS 0 0 (S.length + 1) (S.length + 4) (-1)), .dk (kvL (S.length + 2) (S.length + 3)), .lst [], .lst [], .lst []]) := by
  simp! only [m_State___init__, b_State___init__, get_at0, set_at0, get_at, set_at, List.length_append, List.append_assoc, Nat.add_assoc, xDisp, pCons, pNil, keyed, mergeL, putL, mrg2]
  rfl
def fsH (st dl el : Nat) : List (Nat × Vl) := [(42, .ref st), (43, .ref dl), (44, .ref el), (45, .bl false)]
theorem house_init {φ : Nat} {S : Sto} : m_House___init__ φ [.ref S.length] (S ++ [.ins 59 []]) = .ok .non (S ++ [.ins 59 (fsH (S.length + 1) (S.length + 6) (S.length + 7)), .ins 58 (fsS 0 0 (S.length + 2) (S.length + 5) (-1)), .dk (kvL (S.length + 3) (S.length + 4)), .lst [], .lst [], .lst [], .lst [], .lst []]) := by
  have h := state_mk (φ := φ) (S := S ++ [Ob.ins 59 []])
  simp only [List.length_append, List.length_cons, List.length_nil, Nat.zero_add, List.append_assoc, List.cons_append, List.nil_append, Nat.add_assoc, Nat.reduceAdd] at h
  simp! only [m_House___init__, b_House___init__, get_at0, set_at0, get_at, set_at, List.length_append, List.append_assoc, Nat.add_assoc, putL, h]
  rfl
theorem house_mk {φ : Nat} {S : Sto} {env : En} : xMake 59 0 1 (fun xs _ => xs) 0 (m_House___init__ φ) (bArgs aNil aNil) env S = .ok (.ref S.length) (S ++ [.ins 59 (fsH (S.length + 1) (S.length + 6) (S.length + 7)), .ins 58 (fsS 0 0 (S.length + 2) (S.length + 5) (-1)), .dk (kvL (S.length + 3) (S.length + 4)), .lst [], .lst [], .lst [], .lst [], .lst []]) := by
  have h := house_init (φ := φ) (S := S)
  simp! only [h]
/-- a house as it is new -/
def Hs0 (S : Sto) (h : Nat) : Prop := ∃ st dl el d ms : Nat, S[h]? = some (.ins 59 (fsH st dl el)) ∧ S[st]? = some (.ins 58 (fsS 0 0 d ms (-1))) ∧ S[dl]? = some (.lst [])
theorem Hs0.kp {S S' : Sto} {h : Nat} {ids : List Nat} (q : Hs0 S h) (k : Kp ids S S') (hn : ∀ i ∈ ids, S.length ≤ i ∨ ∃ xs, S[i]? = some (.lst xs) ∧ xs ≠ []) : Hs0 S' h := by
  obtain ⟨st, dl, el, d, ms, a, b, c⟩ := q
  have out : ∀ {i : Nat} {o : Ob}, S[i]? = some o → (∀ xs, o = .lst xs → xs = []) → i ∉ ids := fun {i o} e he hi => by
    rcases hn i hi with z | ⟨xs, z, zz⟩
    · have := get_lt e; omega
    · rw [e] at z
      cases z
      exact zz (he xs rfl)
  exact ⟨st, dl, el, d, ms, k.get a (out a (fun xs e => by cases e)), k.get b (out b (fun xs e => by cases e)), k.get c (out c (fun xs e => by cases e; rfl))⟩
theorem house_new {S : Sto} : Hs0 (S ++ [.ins 59 (fsH (S.length + 1) (S.length + 6) (S.length + 7)), .ins 58 (fsS 0 0 (S.length + 2) (S.length + 5) (-1)), .dk (kvL (S.length + 3) (S.length + 4)), .lst [], .lst [], .lst [], .lst [], .lst []]) S.length :=
  ⟨S.length + 1, S.length + 6, S.length + 7, S.length + 2, S.length + 5, by rw [get_at0], by rw [get_at]; all_goals rfl, by rw [get_at]; all_goals rfl⟩

/-! ### k47: the busiest -/
def bB (k : Nat) : List Stm := if k = 0 then [.answer 0] else [.wait (2 ^ k - 1), .answer 0]
def bV (k : Nat) : Vl := tv (dP false (bB k))
def bL (n : Nat) : List Vl := (List.range n).map bV
theorem bV0 : bV 0 = .tup [.str "teller", .tup [.tup [.str "answer", .int 0]]] := rfl
theorem bVs {k : Nat} (h : k ≠ 0) : bV k = .tup [.str "teller", .tup [.tup [.str "wait", .int (2 ^ k - 1)], .tup [.str "answer", .int 0]]] := by
  unfold bV bB
  rw [if_neg h]; rfl
theorem isint_i {φ : Nat} {S : Sto} {n : Int} : m_is_integer φ [.int n] S = .ok (.bl true) S := by
  have i3 : vIsi [.int n, .ty "int"] S = .ok (.bl true) S := rfl
  have i4 : vIsi [.int n, .ty "bool"] S = .ok (.bl false) S := rfl
  simp! only [m_is_integer, b_is_integer, i3, i4]
theorem busy_ok {φ n : Nat} {S : Sto} (hφ : 20 < φ) (h1 : 1 ≤ n) (h8 : n ≤ 8) : ∃ S', m_busiest φ [.int (n : Int)] S = .ok (.ref (S.length + 1)) S' ∧ S'[S.length + 1]? = some (.lst (bL n).reverse) ∧ Kp [] S S' := by
  have hi := isint_i (φ := φ) (S := S) (n := (n : Int))
  have n1 : (S ++ [Ob.lst [bV 0]])[S.length]? = some (.lst (bL 1)) := get_new
  have k1 : Kp [] S (S ++ [Ob.lst [bV 0]]) := .app
  generalize hS1 : S ++ [Ob.lst [bV 0]] = S1 at *
  obtain ⟨e, S', q, rfl, g, k, hl⟩ := whileZ_inv (t := t1_busiest φ) (f := l1_busiest φ) (fun m env T => ∃ i : Nat, m + i = n ∧ 1 ≤ i ∧ env = [some (.int (n : Int)), some (.ref S.length), some (.int (2 ^ i))] ∧ T[S.length]? = some (.lst (bL i)) ∧ Kp [] S T ∧ T.length = S.length + 1)
    (fun env T => env = [some (.int (n : Int)), some (.ref S.length), some (.int (2 ^ n))] ∧ T[S.length]? = some (.lst (bL n)) ∧ Kp [] S T ∧ T.length = S.length + 1)
    (fun m env T ⟨i, hm, hi1, he, g, k, hl⟩ => by
      subst he
      have hlen : (bL i).length = i := by unfold bL; rw [List.length_map, List.length_range]
      by_cases hlt : i < n
      · refine .inr (.inl ?_)
        have hlt' : decide ((i : Int) < (n : Int)) = true := decide_eq_true (by omega)
        have hb2 : bL i ++ [bV i] = bL (i + 1) := by unfold bL; rw [List.range_succ, List.map_append]; rfl
        have hbv := bVs (k := i) (by omega)
        refine ⟨T, m - 1, [some (.int (n : Int)), some (.ref S.length), some (.int (2 ^ (i + 1)))], T.set S.length (.lst (bL (i + 1))), ?_, .inl ?_, by omega, i + 1, by omega, by omega, rfl, get_set g, Kp.late k (Kp.set (ids := [S.length]) (by simp)) fun q hq => .inr (by simp at hq; omega), by rw [List.length_set]; exact hl⟩
        · generalize bL i = B at *
          simp! only [t1_busiest, g, hlen, hlt']
        · have hll : (bL i).length < 100000 := by omega
          generalize bL (i + 1) = B2 at *
          generalize bL i = B at *
          rw [hbv] at hb2
          have him : ∀ (x : Int) (T : Sto), vImul (.int x) (.int 2) T = .ok (.int (x * 2)) T := fun x T => by
            unfold vImul
            first
              | rfl
              | (dsimp only; rw [if_pos (by omega)])
              | simp [vMul]
          simp! only [l1_busiest, g, hll, hb2, him, Int.pow_succ]
      · refine .inl ⟨T, ?_, ?_⟩
        · have hlt' : decide ((i : Int) < (n : Int)) = false := decide_eq_false (by omega)
          generalize bL i = B at *
          simp! only [t1_busiest, g, hlen, hlt']
        · have : i = n := by omega
          subst this
          exact ⟨rfl, g, k, hl⟩) φ (n - 1) [some (.int (n : Int)), some (.ref S.length), some (.int 2)] S1 (by omega) ⟨1, by omega, by omega, rfl, n1, k1, by rw [← hS1, List.length_append]; rfl⟩
  refine ⟨S' ++ [.lst (bL n).reverse], ?_, by rw [← hl]; exact get_new, k.trans .app⟩
  have c1 : decide ((1 : Int) ≤ (n : Int)) = true := decide_eq_true (by omega)
  have c2 : decide ((n : Int) ≤ 8) = true := decide_eq_true (by omega)
  rw [bV0] at hS1
  rw [← hl]
  generalize bL n = B at *
  simp! only [m_busiest, b_busiest, hi, c1, c2, hS1, zWhile_e, q, vRevL, g]
theorem two_b {k : Nat} (h0 : k ≠ 0) (h : k ≤ 7) : (1 : Int) ≤ 2 ^ k - 1 ∧ (2 : Int) ^ k - 1 ≤ 200 := by
  rcases (show k = 1 ∨ k = 2 ∨ k = 3 ∨ k = 4 ∨ k = 5 ∨ k = 6 ∨ k = 7 by omega) with rfl | rfl | rfl | rfl | rfl | rfl | rfl <;> decide
theorem bB_ok {k : Nat} (h : k ≤ 7) : okB false 4 (bB k) ∧ szB (bB k) ≤ 24 := by
  have ha : okB false 4 [.answer 0] := by
    simp only [okB, okS]
    decide
  unfold bB
  by_cases h0 : k = 0
  · rw [if_pos h0]
    exact ⟨ha, by decide⟩
  · rw [if_neg h0]
    obtain ⟨w1, w2⟩ := two_b h0 h
    generalize (2 : Int) ^ k - 1 = w at *
    refine ⟨?_, ?_⟩
    · rw [okB] at ha ⊢
      refine ⟨?_, ha⟩
      rw [okS]
      exact ⟨w1, by omega⟩
    · simp only [szB, szS]
      decide
theorem bB_hgt {k : Nat} (h : k ≤ 7) : hgt (dP false (bB k)) ≤ 59 := by
  rcases (show k = 0 ∨ k = 1 ∨ k = 2 ∨ k = 3 ∨ k = 4 ∨ k = 5 ∨ k = 6 ∨ k = 7 by omega) with rfl | rfl | rfl | rfl | rfl | rfl | rfl | rfl <;> decide
theorem noL_P9 {col : Bool} {bd : List Stm} : noL (dP col bd) = true := by
  show noLs [.str (sK col), .tuple (dB bd)] = true
  rw [noLs, noLs, noLs]
  show (true && (noLs (dB bd) && true)) = true
  rw [noL_B]; rfl
theorem isprog_b {φ k : Nat} {S : Sto} (h : k ≤ 7) : m_is_program φ [bV k] S = .ok (.bl true) S := by
  obtain ⟨h1, h2⟩ := bB_ok h
  unfold m_is_program bV
  dsimp only
  rw [toD_dP h1]
  dsimp only
  rw [if_pos (sm_dP (by omega)), isProg_dP h1 h2]
def bD (n : Nat) : PyData := .list ((List.range n).map fun k => dP false (bB k)).reverse
theorem allD_bv {T : Sto} : ∀ (l : List Nat), (∀ k ∈ l, k ≤ 7) → allD (toD 59 T) (l.map bV) = some (l.map fun k => dP false (bB k))
  | [], _ => rfl
  | k :: l, h => by
    rw [List.map_cons, List.map_cons, allD, allD_bv l fun x hx => h x (List.mem_cons_of_mem _ hx)]
    unfold bV
    rw [toD_tv noL_P9 (bB_hgt (h k List.mem_cons_self))]
theorem repr_busy {T : Sto} {j n : Nat} (h1 : 1 ≤ n) (h8 : n ≤ 8) (h : T[j]? = some (.lst (bL n).reverse)) : vRepr [.ref j] T = .ok (.str (PyData.shown (bD n))) T := by
  have e : toD 60 T (.ref j) = some (bD n) := by
    show (match T[j]? with
      | some (.lst xs) => (allD (toD 59 T) xs).map PyData.list
      | _ => none) = _
    rw [h]
    show (allD (toD 59 T) (bL n).reverse).map PyData.list = _
    unfold bL bD
    rw [← List.map_reverse, ← List.map_reverse, allD_bv _ (fun k hk => by
      have := List.mem_range.mp (List.mem_reverse.mp hk)
      omega)]
    rfl
  have hc : (bD n).showable = true ∧ (bD n).hasDict = false ∧ (bD n).depth ≤ 60 ∧ (bD n).shown.length ≤ sizeLine := by
    rcases (show n = 1 ∨ n = 2 ∨ n = 3 ∨ n = 4 ∨ n = 5 ∨ n = 6 ∨ n = 7 ∨ n = 8 by omega) with rfl | rfl | rfl | rfl | rfl | rfl | rfl | rfl <;> decide +kernel
  unfold vRepr
  dsimp only
  rw [e]
  dsimp only
  rw [if_pos hc]

/-! ### k47: the busiest programs, told -/
theorem rep_flat {v : Vl} : ∀ n : Nat, (List.replicate n [v]).flatten = List.replicate n v
  | 0 => rfl
  | n + 1 => by rw [List.replicate_succ, List.flatten_cons, rep_flat n, List.replicate_succ]; rfl
theorem map_const {v : Vl} : ∀ xs : List Vl, xs.map (fun _ => v) = List.replicate xs.length v
  | [] => rfl
  | x :: xs => by rw [List.map_cons, map_const xs, List.length_cons, List.replicate_succ]
theorem bL_len {n : Nat} : (bL n).reverse.length = n := by rw [List.length_reverse]; unfold bL; rw [List.length_map, List.length_range]
theorem bL_mem {n : Nat} {x : Vl} (h : x ∈ (bL n).reverse) : ∃ k, k < n ∧ x = bV k := by
  rw [List.mem_reverse] at h
  unfold bL at h
  obtain ⟨k, hk, rfl⟩ := List.mem_map.mp h
  exact ⟨k, List.mem_range.mp hk, rfl⟩
theorem bV_ix {k : Nat} {S : Sto} : vIx (bV k) (.int 0) S = .ok (.str "teller") S := by
  by_cases h : k = 0
  · subst h; rfl
  · rw [bVs h]; rfl
theorem cmpB_ok {φ t n : Nat} {S : Sto} {e0 e1 e2 e3 e4 e5 e6 e8 e9 e10 e11 e12 e14 : Option Vl} (ht : S[t]? = some (.lst (bL n).reverse)) (hn : n ≤ 8) :
    c2_law φ [e0, e1, e2, e3, e4, e5, e6, some (.ref t), e8, e9, e10, e11, e12, none, e14] S = .ok (.ref S.length) (S ++ [.lst (List.replicate n (.str "teller"))]) := by
  have hl := bL_len (n := n)
  have h := lc_map (it := iAny (xVar 7)) (j := t) (k := 13) (e := xOp vIx (xVar 13) (xC (.int 0))) (vs := [13]) (env := [e0, e1, e2, e3, e4, e5, e6, some (.ref t), e8, e9, e10, e11, e12, none, e14]) (env' := [e0, e1, e2, e3, e4, e5, e6, some (.ref t), e8, e9, e10, e11, e12, none, e14]) (S := S) (xs := (bL n).reverse) (fun _ => .str "teller")
    (by
      generalize (bL n).reverse = L at *
      simp! only [ht]) rfl ht (by omega) (fun acc x hx => by
      obtain ⟨k, _, rfl⟩ := bL_mem hx
      have hix := bV_ix (k := k) (S := S ++ [Ob.lst acc])
      generalize bV k = v at *
      simp! only [hix])
  rw [map_const, hl] at h
  exact h
theorem cmpC_ok {φ t n : Nat} {S : Sto} {e0 e1 e2 e3 e4 e5 e6 e8 e9 e10 e11 e12 e14 : Option Vl} (ht : S[t]? = some (.lst (bL n).reverse)) (hn : n ≤ 8) :
    c3_law φ [e0, e1, e2, e3, e4, e5, e6, some (.ref t), e8, e9, e10, e11, e12, none, e14] S = .ok (.ref S.length) (S ++ [.lst (List.replicate n (.bl true))]) := by
  have hl := bL_len (n := n)
  have h := lc_map (it := iAny (xVar 7)) (j := t) (k := 13) (e := (xCall 1 1 (fun xs _ => xs) 0 (m_is_program φ) (bArgs (aCons (xVar 13) aNil) aNil))) (vs := [13]) (env := [e0, e1, e2, e3, e4, e5, e6, some (.ref t), e8, e9, e10, e11, e12, none, e14]) (env' := [e0, e1, e2, e3, e4, e5, e6, some (.ref t), e8, e9, e10, e11, e12, none, e14]) (S := S) (xs := (bL n).reverse) (fun _ => .bl true)
    (by
      generalize (bL n).reverse = L at *
      simp! only [ht]) rfl ht (by omega) (fun acc x hx => by
      obtain ⟨k, hk, rfl⟩ := bL_mem hx
      have hix := isprog_b (φ := φ) (k := k) (S := S ++ [Ob.lst acc]) (by omega)
      generalize bV k = v at *
      simp! only [hix])
  rw [map_const, hl] at h
  exact h
theorem toBoolsA : ∀ n : Nat, toBools (List.replicate n (.bl true)) = some (List.replicate n true)
  | 0 => rfl
  | n + 1 => by rw [List.replicate_succ, toBools, toBoolsA n]; rfl
theorem all_trueA {S : Sto} {i n : Nat} (h : S[i]? = some (.lst (List.replicate n (.bl true)))) : vAll [.ref i] S = .ok (.bl true) S := by
  unfold vAll
  dsimp only
  rw [h]
  dsimp only
  rw [toBoolsA]
  dsimp only
  have : (List.replicate n true).all id = true := by
    rw [List.all_eq_true]
    intro x hx
    exact (List.mem_replicate.mp hx).2
  rw [this]
section
variable {φ b k h4 j : Nat} {S : Sto} {ns : List Int} {m : Int} {e6 e7 : Option Vl}
theorem lawC (hφ : 20 < φ) (rest : ZS) : ∃ (b2 h t : Nat) (n : Nat) (z : Str) (S' : Sto), (zSeq (zAsg (xTup (aCons (xCall 2 2 (fun xs _ => xs) 0 (m__law_purse φ) (bArgs (aCons (xVar 0) (aCons (xC (.int 1)) aNil)) aNil)) (aCons (xMake 59 0 1 (fun xs _ => xs) 0 (m_House___init__ φ) (bArgs aNil aNil)) aNil))) (gmTup 2 (gmsCons (gmName 1) (gmsCons (gmName 8) gmsNil)))) (zSeq (zAsg (xOp vAdd (xC (.int 1)) (xCall 2 2 (fun xs _ => xs) 0 (m__law_take φ) (bArgs (aCons (xVar 1) (aCons (xC (.int 8)) aNil)) aNil))) (gmName 2)) (zSeq (zAsg (xCall 1 1 (fun xs _ => xs) 0 (m_busiest φ) (bArgs (aCons (xVar 2) aNil) aNil)) (gmName 7)) (zSeq (zIf (yOr (yNot (yV (xCB vIsi (aCons (xVar 7) (aCons (xC (.ty "list")) aNil))))) (yOr (yCmp vNe (xCB vLen (aCons (xVar 7) aNil)) (xVar 2)) (yCmp vNe (c2_law φ) (xOp vMulL (xLst (aCons (xC (.str "teller")) aNil)) (xVar 2))))) (zSeq (zRet (xC (.bl false))) zNil) zNil) (zSeq (zIf (yNot (yV (xCB vAll (aCons (c3_law φ) aNil)))) (zSeq (zRet (xC (.bl false))) zNil) zNil) (zSeq (zAsg (xCB vRepr (aCons (xVar 7) aNil)) (gmName 9)) (zSeq (zDrop (xBM "list" mClear (xVar 7) aNil)) (zSeq (zIf (yCmp vNe (xCB vRepr (aCons (xCall 1 1 (fun xs _ => xs) 0 (m_busiest φ) (bArgs (aCons (xVar 2) aNil) aNil)) aNil)) (xVar 9)) (zSeq (zRet (xC (.bl false))) zNil) zNil) rest)))))))) [some (.scr ns), some (.ref b), some (.int m), some (.ref k), some (.ref h4), some (.ref j), e6, e7, none, none, none, none, none, none, none] S = rest [some (.scr ns), some (.ref b2), some (.int (n : Int)), some (.ref k), some (.ref h4), some (.ref j), e6, some (.ref t), some (.ref h), some (.str z), none, none, none, none, none] S' ∧ Hs0 S' h := by
  obtain ⟨x, y, h1, y1, y2⟩ := purse_ok (φ := φ) (k := 1) (S := S) (ns := ns) (by omega)
  have h1 : m__law_purse φ [.scr ns, .int 1] S = .ok (.ref S.length) (S ++ [.lst [.int x, .int y, .int 0]]) := h1
  have b1 : Pu (S ++ [Ob.lst [.int x, .int y, .int 0]]) S.length 0 := ⟨x, y, 0, get_new, y1, y2, by omega, by omega⟩
  generalize hS1 : S ++ [Ob.lst [.int x, .int y, .int 0]] = S1 at *
  have hm := fun env => house_mk (φ := φ) (S := S1) (env := env)
  have hH := house_new (S := S1)
  have b2 := b1.app (T := [.ins 59 (fsH (S1.length + 1) (S1.length + 6) (S1.length + 7)), .ins 58 (fsS 0 0 (S1.length + 2) (S1.length + 5) (-1)), .dk (kvL (S1.length + 3) (S1.length + 4)), .lst [], .lst [], .lst [], .lst [], .lst []])
  generalize hS2 : (S1 ++ [Ob.ins 59 (fsH (S1.length + 1) (S1.length + 6) (S1.length + 7)), .ins 58 (fsS 0 0 (S1.length + 2) (S1.length + 5) (-1)), .dk (kvL (S1.length + 3) (S1.length + 4)), .lst [], .lst [], .lst [], .lst [], .lst []]) = S2 at *
  obtain ⟨r, S3, q3, k3, b3, ra, rb⟩ := take_ok (φ := φ) (m := 8) (by omega) b2 (by omega) (by omega) (by omega)
  obtain ⟨r, rfl⟩ := Int.eq_ofNat_of_zero_le ra
  have hH3 := hH.kp k3 (fun i hi => by
    rw [List.mem_singleton.mp hi]
    obtain ⟨x, y, z, hb, _⟩ := b2
    exact .inr ⟨_, hb, by simp⟩)
  obtain ⟨S4, q4, g4, k4⟩ := busy_ok (φ := φ) (n := r + 1) (S := S3) hφ (by omega) (by omega)
  have q4 : m_busiest φ [.int (1 + (r : Int))] S3 = .ok (.ref (S3.length + 1)) S4 := by rw [← q4]; congr 3; push_cast; omega
  have hH4 := hH3.kp k4 (by simp)
  have hlen := bL_len (n := r + 1)
  -- the tests
  have hisi : vIsi [.ref (S3.length + 1), .ty "list"] S4 = .ok (.bl true) S4 := by
    unfold vIsi tyV'
    dsimp only
    rw [g4]; rfl
  have hle : ((((r + 1 : Nat) : Nat)) : Int) = 1 + (r : Int) := by push_cast; omega
  have q5 := cmpB_ok (φ := φ) (e0 := some (.scr ns)) (e1 := some (.ref S.length)) (e2 := some (.int (1 + (r : Int)))) (e3 := some (.ref k)) (e4 := some (.ref h4)) (e5 := some (.ref j)) (e6 := e6) (e8 := some (.ref S1.length)) (e9 := none) (e10 := none) (e11 := none) (e12 := none) (e14 := none) g4 (by omega)
  have n5 : (S4 ++ [Ob.lst (List.replicate (r + 1) (.str "teller"))])[S4.length]? = some (.lst (List.replicate (r + 1) (.str "teller"))) := get_new
  have g5 := get_app (T := [Ob.lst (List.replicate (r + 1) (.str "teller"))]) g4
  have hH5 := hH4.kp (Kp.app (ids := []) (T := [Ob.lst (List.replicate (r + 1) (.str "teller"))])) (by simp)
  generalize hS5 : S4 ++ [Ob.lst (List.replicate (r + 1) (.str "teller"))] = S5 at *
  have n6 : (S5 ++ [Ob.lst [.str "teller"]])[S5.length]? = some (.lst [.str "teller"]) := get_new
  have n56 := get_app (T := [Ob.lst [.str "teller"]]) n5
  have g6 := get_app (T := [Ob.lst [.str "teller"]]) g5
  have hH6 := hH5.kp (Kp.app (ids := []) (T := [Ob.lst [.str "teller"]])) (by simp)
  generalize hS6 : S5 ++ [Ob.lst [.str "teller"]] = S6 at *
  have mr : (-4611686018427387904 ≤ 1 + (r : Int) ∧ 1 + (r : Int) < 4611686018427387904) ∧ 1 * (1 + (r : Int)).toNat ≤ 100000 := by omega
  have mf : (List.replicate (1 + (r : Int)).toNat [Vl.str "teller"]).flatten = List.replicate (r + 1) (Vl.str "teller") := by
    rw [show (1 + (r : Int)).toNat = r + 1 by omega, rep_flat]
  have n7 : (S6 ++ [Ob.lst (List.replicate (r + 1) (.str "teller"))])[S6.length]? = some (.lst (List.replicate (r + 1) (.str "teller"))) := get_new
  have n57 := get_app (T := [Ob.lst (List.replicate (r + 1) (.str "teller"))]) n56
  have g7 := get_app (T := [Ob.lst (List.replicate (r + 1) (.str "teller"))]) g6
  have hH7 := hH6.kp (Kp.app (ids := []) (T := [Ob.lst (List.replicate (r + 1) (.str "teller"))])) (by simp)
  generalize hS7 : S6 ++ [Ob.lst (List.replicate (r + 1) (.str "teller"))] = S7 at *
  have emr : List.replicate (r + 1) (Vl.str "teller") = (List.replicate (r + 1) ("teller" : Str)).map Vl.str := by rw [List.map_replicate]
  have ne7 : vNe (.ref S4.length) (.ref S6.length) S7 = .ok (.bl false) S7 := ne_strs (zs := List.replicate (r + 1) ("teller" : Str)) (by rw [← emr]; exact n57) (by rw [← emr]; exact n7)
  have q8 := cmpC_ok (φ := φ) (e0 := some (.scr ns)) (e1 := some (.ref S.length)) (e2 := some (.int (1 + (r : Int)))) (e3 := some (.ref k)) (e4 := some (.ref h4)) (e5 := some (.ref j)) (e6 := e6) (e8 := some (.ref S1.length)) (e9 := none) (e10 := none) (e11 := none) (e12 := none) (e14 := none) g7 (by omega)
  have n8 : (S7 ++ [Ob.lst (List.replicate (r + 1) (.bl true))])[S7.length]? = some (.lst (List.replicate (r + 1) (.bl true))) := get_new
  have g8 := get_app (T := [Ob.lst (List.replicate (r + 1) (.bl true))]) g7
  have hH8 := hH7.kp (Kp.app (ids := []) (T := [Ob.lst (List.replicate (r + 1) (.bl true))])) (by simp)
  have al8 := all_trueA n8
  generalize hS8 : S7 ++ [Ob.lst (List.replicate (r + 1) (.bl true))] = S8 at *
  have r8 := repr_busy (by omega) (by omega) g8
  have k9 : Kp [S3.length + 1] S8 (S8.set (S3.length + 1) (.lst [])) := Kp.set (by simp)
  have hH9 := hH8.kp k9 (fun i hi => by
    rw [List.mem_singleton.mp hi]
    refine .inr ⟨_, g8, fun e => ?_⟩
    have := bL_len (n := r + 1)
    rw [e] at this
    cases this)
  have mc : mClear (.ref (S3.length + 1)) [] S8 = .ok .non (S8.set (S3.length + 1) (.lst [])) := by
    unfold mClear
    dsimp only
    rw [g8]
  generalize hS9 : S8.set (S3.length + 1) (.lst []) = S9 at *
  obtain ⟨Sa, qa, ga, ka⟩ := busy_ok (φ := φ) (n := r + 1) (S := S9) hφ (by omega) (by omega)
  have qa : m_busiest φ [.int (1 + (r : Int))] S9 = .ok (.ref (S9.length + 1)) Sa := by rw [← qa]; congr 3; push_cast; omega
  have hHa := hH9.kp ka (by simp)
  have ra := repr_busy (by omega) (by omega) ga
  have dz : decide (PyData.shown (bD (r + 1)) = PyData.shown (bD (r + 1))) = true := decide_eq_true rfl
  have dl : decide (((((r + 1 : Nat)) : Int)) = 1 + (r : Int)) = true := decide_eq_true hle
  refine ⟨S.length, S1.length, S3.length + 1, r + 1, PyData.shown (bD (r + 1)), Sa, ?_, hHa⟩
  rw [hle]
  clear emr
  generalize List.replicate (r + 1) (Vl.str "teller") = RT at *
  generalize List.replicate (r + 1) (Vl.bl true) = RB at *
  generalize PyData.shown (bD (r + 1)) = zz at *
  generalize (bL (r + 1)).reverse = L at *
  generalize hcc2 : c2_law φ = C2 at *
  generalize hcc3 : c3_law φ = C3 at *
  clear hcc2 hcc3
  generalize hhm : xMake 59 0 1 (fun xs _ => xs) 0 (m_House___init__ φ) (bArgs aNil aNil) = HM at *
  clear hhm
  simp! only [h1, hm, q3, q4, hisi, g4, hlen, dl, hle, q5, hS6, n6, mr, mf, hS7, ne7, q8, al8, g8, r8, mc, qa, ra, dz]
end

/-! ### k47: what is refused -/
theorem zTryX_k {i : Nat} {mt : Nat → Option Bool} {fb : ZS} {fs : Nat → Option Nat → ZS} {env : En} {S : Sto} : zTryX i mt fb fs env S = catchX i mt fs (fb env S) := rfl
theorem catchX_k {i c : Nat} {mt : Nat → Option Bool} {fs : Nat → Option Nat → ZS} {x : Option Nat} {e : En} {S : Sto} (h : mt c = some true) (hl : i < e.length) : catchX i mt fs (.ok (.er c x e) S) = outS i (fs c x (e.set i none) S) := by
  unfold catchX
  dsimp only
  rw [h]
  dsimp only
  rw [if_pos hl]
inductive Rf (T : Sto) : Vl → Prop
  | bl (b : Bool) : Rf T (.bl b)
  | non : Rf T .non
  | str (z : Str) : Rf T (.str z)
  | tup (l : List Vl) : Rf T (.tup l)
  | lst {i : Nat} {xs : List Vl} (h : T[i]? = some (.lst xs)) : Rf T (.ref i)
  | int {n : Int} (h : n < 0 ∨ 1000000000000000000000000000000000000000000000000000000000000 < n) : Rf T (.int n)
theorem Rf.kp {T T' : Sto} {v : Vl} (h : Rf T v) (k : Kp [] T T') : Rf T' v := by
  cases h with
  | bl b => exact .bl b
  | non => exact .non
  | str z => exact .str z
  | tup l => exact .tup l
  | lst h => exact .lst (k.get h (by simp))
  | int h => exact .int h
theorem Rf.no {φ : Nat} {T : Sto} {v : Vl} (h : Rf T v) : m_is_integer φ [v] T = .ok (.bl false) T ∨ ∃ n : Int, v = .int n ∧ (n < 0 ∨ 1000000000000000000000000000000000000000000000000000000000000 < n) := by
  cases h with
  | bl b =>
    refine .inl ?_
    have i3 : vIsi [.bl b, .ty "int"] T = .ok (.bl true) T := rfl
    have i4 : vIsi [.bl b, .ty "bool"] T = .ok (.bl true) T := rfl
    simp! only [m_is_integer, b_is_integer, i3, i4]
  | non =>
    refine .inl ?_
    have i3 : vIsi [.non, .ty "int"] T = .ok (.bl false) T := rfl
    simp! only [m_is_integer, b_is_integer, i3]
  | str z =>
    refine .inl ?_
    have i3 : vIsi [.str z, .ty "int"] T = .ok (.bl false) T := rfl
    simp! only [m_is_integer, b_is_integer, i3]
  | tup l =>
    refine .inl ?_
    have i3 : vIsi [.tup l, .ty "int"] T = .ok (.bl false) T := rfl
    simp! only [m_is_integer, b_is_integer, i3]
  | @lst i xs h =>
    refine .inl ?_
    have i3 : vIsi [.ref i, .ty "int"] T = .ok (.bl false) T := by
      unfold vIsi tyV'
      dsimp only
      rw [h]; rfl
    simp! only [m_is_integer, b_is_integer, i3]
  | int h => exact .inr ⟨_, rfl, h⟩
theorem busy_no {φ : Nat} {T : Sto} {v : Vl} (h : m_is_integer φ [v] T = .ok (.bl false) T ∨ ∃ n : Int, v = .int n ∧ (n < 1 ∨ 8 < n)) : m_busiest φ [v] T = .err 13 none T := by
  rcases h with h | ⟨n, rfl, h⟩
  · simp! only [m_busiest, b_busiest, h]
  · have hi := isint_i (φ := φ) (S := T) (n := n)
    by_cases h1 : 1 ≤ n
    · have c1 : decide ((1 : Int) ≤ n) = true := decide_eq_true h1
      have c2 : decide (n ≤ 8) = false := decide_eq_false (by omega)
      simp! only [m_busiest, b_busiest, hi, c1, c2]
    · have c1 : decide ((1 : Int) ≤ n) = false := decide_eq_false h1
      simp! only [m_busiest, b_busiest, hi, c1]
theorem adv_no {φ hs : Nat} {T : Sto} {v w : Vl} (h : Rf T v) : m_House_advance φ [.ref hs, v, w] T = .err 13 none T := by
  rcases h.no (φ := φ) with h | ⟨n, rfl, h⟩
  · simp! only [m_House_advance, b_House_advance, h]
  · have hi := isint_i (φ := φ) (S := T) (n := n)
    by_cases h1 : 0 ≤ n
    · have c1 : decide ((0 : Int) ≤ n) = true := decide_eq_true h1
      have c2 : decide (n ≤ 1000000000000000000000000000000000000000000000000000000000000) = false := decide_eq_false (by omega)
      simp! only [m_House_advance, b_House_advance, hi, c1, c2]
    · have c1 : decide ((0 : Int) ≤ n) = false := decide_eq_false h1
      simp! only [m_House_advance, b_House_advance, hi, c1]
theorem isX_none {ans : Vl → Option Bool} {f : XE'} {env : En} {S : Sto} {v : Vl} {b : Bool} (h2 : f env S = .ok v S) (h3 : ans v = some b) : xIsX none ans f env S = .ok (.bl b) S := by
  unfold xIsX
  rw [h2]
  rw [Out.bind_ok, if_pos (show hasXd none S = true from rfl), h3]
theorem a13_10 : ansOf etab1 etab2 13 (.fn 10) = some false := by decide +kernel
theorem a13_12 : ansOf etab1 etab2 13 (.fn 12) = some false := by decide +kernel
theorem a13_13 : ansOf etab1 etab2 13 (.fn 13) = some true := by decide +kernel
theorem a13_v : ansOf etab1 etab2 13 (.ty "ValueError") = some true := by decide +kernel
theorem any_3f {S : Sto} : vAny [.ref S.length] (S ++ [.lst [.bl false, .bl false, .bl false]]) = .ok (.bl false) (S ++ [.lst [.bl false, .bl false, .bl false]]) := by
  unfold vAny
  dsimp only
  rw [get_new]
  rfl
theorem refused_ok {φ h : Nat} {T : Sto} {v : Vl} {w : Int} (hH : Hs0 T h) (hw : (w = 0 ∧ (m_is_integer φ [v] T = .ok (.bl false) T ∨ ∃ n : Int, v = .int n ∧ (n < 1 ∨ 8 < n))) ∨ ((w = 1 ∨ w = 2) ∧ Rf T v)) :
    m__law_refused φ [.ref h, v, .int w] T = .ok (.bl true) (T ++ [.lst [.bl false, .bl false, .bl false]]) := by
  have hm : List.lookup 13 tbm_HouseError = some true := by decide +kernel
  have e1 : ∀ (env : En) (S : Sto), xIsX none (ansOf etab1 etab2 13) (xC (.fn 10)) env S = .ok (.bl false) S := fun env S => isX_none rfl a13_10
  have e2 : ∀ (env : En) (S : Sto), xIsX none (ansOf etab1 etab2 13) (xC (.fn 12)) env S = .ok (.bl false) S := fun env S => isX_none rfl a13_12
  have e3 : ∀ (env : En) (S : Sto), xIsX none (ansOf etab1 etab2 13) (xC (.ty "ValueError")) env S = .ok (.bl true) S := fun env S => isX_none rfl a13_v
  have e4 : ∀ (env : En) (S : Sto), xIsX none (ansOf etab1 etab2 13) (xC (.fn 13)) env S = .ok (.bl true) S := fun env S => isX_none rfl a13_13
  have an := any_3f (S := T)
  rcases hw with ⟨rfl, hb⟩ | ⟨hw, hr⟩
  · have hb := busy_no hb
    simp! only [m__law_refused, b__law_refused, zTryX_k, catchX_k, hb, hm, e1, e2, e3, e4, an]
  · obtain ⟨st, dl, el, d, ms, a, _⟩ := hH
    have ha := adv_no (φ := φ) (hs := h) (w := .non) hr
    rcases hw with rfl | rfl
    · simp! only [m__law_refused, b__law_refused, zTryX_k, catchX_k, a, ha, hm, e1, e2, e3, e4, an]
    · simp! only [m__law_refused, b__law_refused, zTryX_k, catchX_k, a, ha, hm, e1, e2, e3, e4, an]

/-! ### k47: the law -/
section
variable {φ h : Nat} {S : Sto} {v : Vl} {e0 e1 e2 e3 e4 e5 e6 e7 e9 e10 e12 e13 : Option Vl}
theorem three_ref (hH : Hs0 S h) (hv : Rf S v) : ∃ S', c4_law φ [e0, e1, e2, e3, e4, e5, e6, e7, some (.ref h), e9, e10, some v, e12, e13, none] S = .ok (.ref S.length) S' ∧ S'[S.length]? = some (.lst (List.replicate 3 (.bl true))) ∧ Kp [] S S' := by
  obtain ⟨ys, S', h1, hy, hD, hk⟩ := lc_inv (I := itR 0 3) (it := iRange1 (aCons (xC (.int 3)) aNil)) (k := 14) (t := yYes) (e := (xCall 3 3 (fun xs _ => xs) 0 (m__law_refused φ) (bArgs (aCons (xVar 8) (aCons (xVar 11) (aCons (xVar 14) aNil))) aNil))) (vs := [14]) (env := [e0, e1, e2, e3, e4, e5, e6, e7, some (.ref h), e9, e10, some v, e12, e13, none]) (env' := [e0, e1, e2, e3, e4, e5, e6, e7, some (.ref h), e9, e10, some v, e12, e13, none]) (S := S) (S1 := S) (rngL 0 3)
    (fun i ys T => ys = List.replicate i (.bl true) ∧ T[S.length]? = some (.lst ys) ∧ Kp [] S T)
    rfl rfl (by rw [rngL_len]; rfl) (fun _ _ _ _ => nxt_R)
    (fun i x ys T hx ⟨hy, hD, hk⟩ => by
      obtain ⟨hi, rfl⟩ := rngL_get hx
      have hH' := hH.kp hk (by simp)
      have hv' := hv.kp hk
      have q := refused_ok (φ := φ) (v := v) (w := (0 + (i : Nat))) hH' (by
        rcases (show i = 0 ∨ i = 1 ∨ i = 2 by omega) with rfl | rfl | rfl
        · refine .inl ⟨by simp, ?_⟩
          rcases hv'.no (φ := φ) with z | ⟨n, rfl, z⟩
          · exact .inl z
          · exact .inr ⟨n, rfl, by omega⟩
        · exact .inr ⟨.inl (by simp), hv'⟩
        · exact .inr ⟨.inr (by simp), hv'⟩)
      have gD := get_app (T := [Ob.lst [.bl false, .bl false, .bl false]]) hD
      refine ⟨true, T, rfl, .inr ⟨rfl, .bl true, T ++ [.lst [.bl false, .bl false, .bl false]], ?_, gD, by rw [hy, List.length_replicate]; omega, by rw [hy, List.replicate_succ'], get_set gD, Kp.late (hk.trans .app) (Kp.set (ids := [S.length]) (by simp)) fun q hq => .inr (by simp at hq; omega)⟩⟩
      simp! only [q])
    ⟨rfl, get_new, .app⟩
  rw [rngL_len] at hy
  subst hy
  exact ⟨S', h1, hD, hk⟩
theorem ref_turn (hH : Hs0 S h) (hv : Rf S v) : ∃ S', l2_law φ [e0, e1, e2, e3, e4, e5, e6, e7, some (.ref h), e9, e10, some v, e12, e13, none] S = .ok (.nx [e0, e1, e2, e3, e4, e5, e6, e7, some (.ref h), e9, e10, some v, e12, e13, none]) S' ∧ Kp [] S S' := by
  obtain ⟨S', h1, h2, k⟩ := three_ref (φ := φ) (e0 := e0) (e1 := e1) (e2 := e2) (e3 := e3) (e4 := e4) (e5 := e5) (e6 := e6) (e7 := e7) (e9 := e9) (e10 := e10) (e12 := e12) (e13 := e13) hH hv
  have ha := all_trueA h2
  refine ⟨S', ?_, k⟩
  unfold l2_law
  generalize c4_law φ = CC at *
  simp! only [h1, ha]
theorem ref_loop {L : Nat} {xs : List Vl} (hH : Hs0 S h) (hL : S[L]? = some (.lst xs)) (hv : ∀ x ∈ xs, Rf S x) (hl : xs.length ≤ 10) : ∃ (e11' : Option Vl) (S' : Sto), forZ (itL L xs.length) (gmName 11) (l2_law φ) xs.length 0 [e0, e1, e2, e3, e4, e5, e6, e7, some (.ref h), e9, e10, none, e12, e13, none] S = .ok (.nx [e0, e1, e2, e3, e4, e5, e6, e7, some (.ref h), e9, e10, e11', e12, e13, none]) S' ∧ Kp [] S S' := by
  obtain ⟨e, S', h1, e11, rfl, k⟩ := forZ_inv (I := itL L xs.length) (g := gmName 11) (f := l2_law φ) xs
    (fun i env T => ∃ e11 : Option Vl, env = [e0, e1, e2, e3, e4, e5, e6, e7, some (.ref h), e9, e10, e11, e12, e13, none] ∧ Kp [] S T)
    (fun i env T ⟨_, _, k⟩ => nxt_L (k.get hL (by simp)))
    (fun i x env T hx ⟨e11, he, k⟩ => by
      subst he
      obtain ⟨T', q, k'⟩ := ref_turn (φ := φ) (e0 := e0) (e1 := e1) (e2 := e2) (e3 := e3) (e4 := e4) (e5 := e5) (e6 := e6) (e7 := e7) (e9 := e9) (e10 := e10) (e12 := e12) (e13 := e13) (hH.kp k (by simp)) ((hv x (List.mem_of_getElem? hx)).kp k)
      exact ⟨_, T, _, T', rfl, .inl q, some x, rfl, k.trans k'⟩)
    xs.length 0 [e0, e1, e2, e3, e4, e5, e6, e7, some (.ref h), e9, e10, none, e12, e13, none] S (by omega) (by omega) ⟨none, rfl, Kp.refl⟩
  exact ⟨e11, S', h1, k⟩
end
theorem clock_ok {φ h : Nat} {S : Sto} (hH : Hs0 S h) : m_House_clock φ [.ref h] S = .ok (.int 0) S := by
  obtain ⟨st, dl, el, d, ms, a, b, c⟩ := hH
  unfold fsH at a
  unfold fsS at b
  simp! only [m_House_clock, b_House_clock, a, b]
theorem history_ok {φ h : Nat} {S : Sto} (hH : Hs0 S h) : m_House_history φ [.ref h] S = .ok (.ref S.length) (S ++ [.lst []]) := by
  obtain ⟨st, dl, el, d, ms, a, b, c⟩ := hH
  unfold fsH at a
  simp! only [m_House_history, b_House_history, a, c]
theorem lawD {φ b k h4 j h t n : Nat} {z : Str} {S : Sto} {ns : List Int} {e6 : Option Vl} (hφ : 20 < φ) (hH : Hs0 S h) (rest : ZS) : ∃ (f1 f2 f3 f4 f5 f6 f7 f9 f10 f11 : Option Vl) (S' : Sto), (zSeq (zAsg (xCall 2 2 (fun xs _ => xs) 0 (m__law_purse φ) (bArgs (aCons (xVar 0) (aCons (xC (.int 2)) aNil)) aNil)) (gmName 1)) (zSeq (zAsg (xOp vIx (xLst (aCons (xC (.bl true)) (aCons (xC (.bl false)) (aCons (xC .non) (aCons (xC (.str "1")) (aCons (xTup (aCons (xC (.int 1)) aNil)) (aCons (xLst (aCons (xC (.int 1)) aNil)) (aCons (xOp vSub (xUn vNeg (xC (.int 1))) (xCall 2 2 (fun xs _ => xs) 0 (m__law_take φ) (bArgs (aCons (xVar 1) (aCons (xOp vPow (xC (.int 10)) (xC (.int 30))) aNil)) aNil))) (aCons (xC (.str "")) aNil))))))))) (xCall 2 2 (fun xs _ => xs) 0 (m__law_take φ) (bArgs (aCons (xVar 1) (aCons (xC (.int 8)) aNil)) aNil))) (gmName 10)) (zSeq (zFor (iAny (xLst (aCons (xVar 10) (aCons (xUn vNeg (xC (.int 1))) (aCons (xOp vAdd (xOp vPow (xC (.int 10)) (xC (.int 60))) (xC (.int 1))) (aCons (xOp vMul (xOp vPow (xC (.int 10)) (xC (.int 49))) (xOp vPow (xC (.int 10)) (xC (.int 50)))) aNil)))))) (gmName 11) (l2_law φ)) (zSeq (zIf (yOr (yNot (yV (xCall 3 3 (fun xs _ => xs) 0 (m__law_refused φ) (bArgs (aCons (xVar 8) (aCons (xC (.int 0)) (aCons (xC (.int 0)) aNil))) aNil)))) (yNot (yV (xCall 3 3 (fun xs _ => xs) 0 (m__law_refused φ) (bArgs (aCons (xVar 8) (aCons (xOp vAdd (xC (.int 9)) (xCall 2 2 (fun xs _ => xs) 0 (m__law_take φ) (bArgs (aCons (xVar 1) (aCons (xOp vPow (xC (.int 10)) (xC (.int 30))) aNil)) aNil))) (aCons (xC (.int 0)) aNil))) aNil))))) (zSeq (zRet (xC (.bl false))) zNil) zNil) rest)))) [some (.scr ns), some (.ref b), some (.int (n : Int)), some (.ref k), some (.ref h4), some (.ref j), e6, some (.ref t), some (.ref h), some (.str z), none, none, none, none, none] S = rest [some (.scr ns), f1, f2, f3, f4, f5, f6, f7, some (.ref h), f9, f10, f11, none, none, none] S' ∧ Hs0 S' h := by
  obtain ⟨x, y, h1, y1, y2⟩ := purse_ok (φ := φ) (k := 2) (S := S) (ns := ns) (by omega)
  have h1 : m__law_purse φ [.scr ns, .int 2] S = .ok (.ref S.length) (S ++ [.lst [.int x, .int y, .int 0]]) := h1
  have b1 : Pu (S ++ [Ob.lst [.int x, .int y, .int 0]]) S.length 0 := ⟨x, y, 0, get_new, y1, y2, by omega, by omega⟩
  have hH1 := hH.kp (Kp.app (ids := []) (T := [Ob.lst [.int x, .int y, .int 0]])) (by simp)
  generalize hS1 : S ++ [Ob.lst [.int x, .int y, .int 0]] = S1 at *
  have n2 : (S1 ++ [Ob.lst [.int 1]])[S1.length]? = some (.lst [.int 1]) := get_new
  have b2 : Pu (S1 ++ [Ob.lst [.int 1]]) S.length 0 := b1.app
  have hb1 := b1.lt
  have hH2 := hH1.kp (Kp.app (ids := []) (T := [Ob.lst [.int 1]])) (by simp)
  generalize hS2 : S1 ++ [Ob.lst [.int 1]] = S2 at *
  obtain ⟨r, S3, q3, k3, b3, ra, rb⟩ := take_ok (φ := φ) (m := 1000000000000000000000000000000) (by omega) b2 (by omega) (by omega) (by omega)
  have bag_ne : ∀ {T : Sto} {Z : Int}, Pu T S.length Z → ∀ i ∈ [S.length], T.length ≤ i ∨ ∃ xs, T[i]? = some (.lst xs) ∧ xs ≠ [] := fun {T Z} hb i hi => by
    rw [List.mem_singleton.mp hi]
    obtain ⟨x, y, z, hb, _⟩ := hb
    exact .inr ⟨_, hb, by simp⟩
  have hH3 := hH2.kp k3 (bag_ne b2)
  have n3 := k3.get n2 (ni1 (by omega))
  have n4 : (S3 ++ [Ob.lst [.bl true, .bl false, .non, .str "1", .tup [.int 1], .ref S1.length, .int (-1 - r), .str ""]])[S3.length]? = some (.lst [.bl true, .bl false, .non, .str "1", .tup [.int 1], .ref S1.length, .int (-1 - r), .str ""]) := get_new
  have n34 := get_app (T := [Ob.lst [.bl true, .bl false, .non, .str "1", .tup [.int 1], .ref S1.length, .int (-1 - r), .str ""]]) n3
  have b4 : Pu (S3 ++ [Ob.lst [.bl true, .bl false, .non, .str "1", .tup [.int 1], .ref S1.length, .int (-1 - r), .str ""]]) S.length (0 + 7) := b3.app
  have hb3 := b3.lt
  have hH4 := hH3.kp (Kp.app (ids := []) (T := [Ob.lst [.bl true, .bl false, .non, .str "1", .tup [.int 1], .ref S1.length, .int (-1 - r), .str ""]])) (by simp)
  generalize hS4 : S3 ++ [Ob.lst [.bl true, .bl false, .non, .str "1", .tup [.int 1], .ref S1.length, .int (-1 - r), .str ""]] = S4 at *
  obtain ⟨w, S5, q5, k5, b5, wa, wb⟩ := take_ok (φ := φ) (m := 8) (by omega) b4 (by omega) (by omega) (by omega)
  have n5 := k5.get n4 (ni1 (by omega))
  have n35 := k5.get n34 (ni1 (by omega))
  have hH5 := hH4.kp k5 (bag_ne b4)
  obtain ⟨v, hat, hv⟩ : ∃ v, atI [.bl true, .bl false, .non, .str "1", .tup [.int 1], .ref S1.length, .int (-1 - r), .str ""] w = some v ∧ Rf S5 v := by
    rcases (show w = 0 ∨ w = 1 ∨ w = 2 ∨ w = 3 ∨ w = 4 ∨ w = 5 ∨ w = 6 ∨ w = 7 by omega) with rfl | rfl | rfl | rfl | rfl | rfl | rfl | rfl
    · exact ⟨_, atI_nat (j := 0) rfl, .bl _⟩
    · exact ⟨_, atI_nat (j := 1) rfl, .bl _⟩
    · exact ⟨_, atI_nat (j := 2) rfl, .non⟩
    · exact ⟨_, atI_nat (j := 3) rfl, .str _⟩
    · exact ⟨_, atI_nat (j := 4) rfl, .tup _⟩
    · exact ⟨_, atI_nat (j := 5) rfl, .lst n35⟩
    · exact ⟨_, atI_nat (j := 6) rfl, .int (.inl (by omega))⟩
    · exact ⟨_, atI_nat (j := 7) rfl, .str _⟩
  have n6 : (S5 ++ [Ob.lst [v, .int (-1), .int 1000000000000000000000000000000000000000000000000000000000001, .int 1000000000000000000000000000000000000000000000000000000000000000000000000000000000000000000000000000]])[S5.length]? = some (.lst [v, .int (-1), .int 1000000000000000000000000000000000000000000000000000000000001, .int 1000000000000000000000000000000000000000000000000000000000000000000000000000000000000000000000000000]) := get_new
  have hv6 : ∀ q ∈ [v, .int (-1), .int 1000000000000000000000000000000000000000000000000000000000001, .int 1000000000000000000000000000000000000000000000000000000000000000000000000000000000000000000000000000], Rf (S5 ++ [Ob.lst [v, .int (-1), .int 1000000000000000000000000000000000000000000000000000000000001, .int 1000000000000000000000000000000000000000000000000000000000000000000000000000000000000000000000000000]]) q := by
    intro q hq
    simp only [List.mem_cons, List.not_mem_nil, or_false] at hq
    rcases hq with rfl | rfl | rfl | rfl
    · exact hv.kp .app
    · exact .int (.inl (by decide))
    · exact .int (.inr (by decide))
    · exact .int (.inr (by decide))
  have hH6 := hH5.kp (Kp.app (ids := []) (T := [Ob.lst [v, .int (-1), .int 1000000000000000000000000000000000000000000000000000000000001, .int 1000000000000000000000000000000000000000000000000000000000000000000000000000000000000000000000000000]])) (by simp)
  have b6 : Pu (S5 ++ [Ob.lst [v, .int (-1), .int 1000000000000000000000000000000000000000000000000000000000001, .int 1000000000000000000000000000000000000000000000000000000000000000000000000000000000000000000000000000]]) S.length (0 + 7 + 7) := b5.app
  generalize hS6 : S5 ++ [Ob.lst [v, .int (-1), .int 1000000000000000000000000000000000000000000000000000000000001, .int 1000000000000000000000000000000000000000000000000000000000000000000000000000000000000000000000000000]] = S6 at *
  obtain ⟨e11, S7, q7, k7⟩ := ref_loop (φ := φ) (e0 := some (.scr ns)) (e1 := some (.ref S.length)) (e2 := some (.int (n : Int))) (e3 := some (.ref k)) (e4 := some (.ref h4)) (e5 := some (.ref j)) (e6 := e6) (e7 := some (.ref t)) (e9 := some (.str z)) (e10 := some v) (e12 := none) (e13 := none) hH6 n6 hv6 (by simp)
  have hH7 := hH6.kp k7 (by simp)
  have b7 := b6.kp k7 (by simp)
  have q8 := refused_ok (φ := φ) (v := .int 0) (w := 0) hH7 (.inl ⟨rfl, .inr ⟨0, rfl, by omega⟩⟩)
  have hH8 := hH7.kp (Kp.app (ids := []) (T := [Ob.lst [.bl false, .bl false, .bl false]])) (by simp)
  have b8 := b7.app (T := [Ob.lst [.bl false, .bl false, .bl false]])
  generalize hS8 : S7 ++ [Ob.lst [.bl false, .bl false, .bl false]] = S8 at *
  obtain ⟨u, S9, q9, k9, b9, ua, ub⟩ := take_ok (φ := φ) (m := 1000000000000000000000000000000) (by omega) b8 (by omega) (by omega) (by omega)
  have hH9 := hH8.kp k9 (bag_ne b8)
  have qa := refused_ok (φ := φ) (v := .int (9 + u)) (w := 0) hH9 (.inl ⟨rfl, .inr ⟨9 + u, rfl, by omega⟩⟩)
  refine ⟨some (.ref S.length), some (.int (n : Int)), some (.ref k), some (.ref h4), some (.ref j), e6, some (.ref t), some (.str z), some v, e11, S9 ++ [.lst [.bl false, .bl false, .bl false]], ?_, hH9.kp (Kp.app (ids := []) (T := [Ob.lst [.bl false, .bl false, .bl false]])) (by simp)⟩
  simp only [List.length_cons, List.length_nil, Nat.reduceAdd, Nat.zero_add] at q7
  have mu : ∀ T : Sto, vMul (.int 10000000000000000000000000000000000000000000000000) (.int 100000000000000000000000000000000000000000000000000) T = .ok (.int 1000000000000000000000000000000000000000000000000000000000000000000000000000000000000000000000000000) T := fun T => by
    unfold vMul
    dsimp only
    rw [if_pos (Or.inr (by decide +kernel))]
    rfl
  simp! only [h1, hS2, q3, hS4, q5, n5, hat, mu, hS6, n6, q7, q8, q9, qa]
theorem eq_nilB {T : Sto} {a b : Nat} (h1 : T[a]? = some (.lst [])) (h2 : T[b]? = some (.lst [])) : vEq (.ref a) (.ref b) T = .ok (.bl true) T := by
  have e : ∀ i : Nat, T[i]? = some (.lst []) → toD 60 T (.ref i) = some (.list []) := fun i h => by
    show (match T[i]? with
      | some (.lst xs) => (allD (toD 59 T) xs).map PyData.list
      | _ => none) = _
    rw [h]; rfl
  unfold vEq
  rw [e a h1, e b h2]
  rfl
theorem law_any {φ : Nat} (hφ : 20 < φ) (ns : List Int) : ∃ S', m_law φ [.scr ns] [] = .ok (.bl true) S' := by
  obtain ⟨b, k, m, ts, S1, q1, g1, l1⟩ := lawA (φ := φ) (S := []) (ns := ns) (by omega) (zSeq (zPar 4 5 (xCB vList (aCons (xVar 3) aNil)) (xLst aNil)) (zSeq (zFor (iAny (xVar 3)) (gmName 6) (l1_law φ)) (zSeq (zAsg (xCall 1 1 (fun xs _ => xs) 0 (m_most_acts φ) (bArgs (aCons (xVar 4) aNil) aNil)) (gmName 7)) (zSeq (zIf (yOr (yNot (yV (xCall 2 2 (fun xs _ => xs) 0 (m__law_alike φ) (bArgs (aCons (xVar 7) (aCons (xVar 5) aNil)) aNil)))) (yCmp vNe (xVar 4) (xVar 3))) (zSeq (zRet (xC (.bl false))) zNil) zNil) (zSeq (zDrop (xBM "list" mAppend (xVar 7) (aCons (xC (.int 0)) aNil))) (zSeq (zIf (yOr (yNot (yV (xCall 2 2 (fun xs _ => xs) 0 (m__law_alike φ) (bArgs (aCons (xCall 1 1 (fun xs _ => xs) 0 (m_most_acts φ) (bArgs (aCons (xVar 4) aNil) aNil)) (aCons (xVar 5) aNil)) aNil)))) (yOr (yCmp vNe (xCall 1 1 (fun xs _ => xs) 0 (m_most_acts φ) (bArgs (aCons (xLst aNil) aNil) aNil)) (xLst aNil)) (yCmp vNe (xCall 1 1 (fun xs _ => xs) 0 (m_most_acts φ) (bArgs (aCons (xLst (aCons (xC (.str "teller")) (aCons (xC (.str "teller")) aNil))) aNil) aNil)) (xLst (aCons (xC (.int 1)) (aCons (xC (.int 2)) aNil)))))) (zSeq (zRet (xC (.bl false))) zNil) zNil) (zSeq (zAsg (xTup (aCons (xCall 2 2 (fun xs _ => xs) 0 (m__law_purse φ) (bArgs (aCons (xVar 0) (aCons (xC (.int 1)) aNil)) aNil)) (aCons (xMake 59 0 1 (fun xs _ => xs) 0 (m_House___init__ φ) (bArgs aNil aNil)) aNil))) (gmTup 2 (gmsCons (gmName 1) (gmsCons (gmName 8) gmsNil)))) (zSeq (zAsg (xOp vAdd (xC (.int 1)) (xCall 2 2 (fun xs _ => xs) 0 (m__law_take φ) (bArgs (aCons (xVar 1) (aCons (xC (.int 8)) aNil)) aNil))) (gmName 2)) (zSeq (zAsg (xCall 1 1 (fun xs _ => xs) 0 (m_busiest φ) (bArgs (aCons (xVar 2) aNil) aNil)) (gmName 7)) (zSeq (zIf (yOr (yNot (yV (xCB vIsi (aCons (xVar 7) (aCons (xC (.ty "list")) aNil))))) (yOr (yCmp vNe (xCB vLen (aCons (xVar 7) aNil)) (xVar 2)) (yCmp vNe (c2_law φ) (xOp vMulL (xLst (aCons (xC (.str "teller")) aNil)) (xVar 2))))) (zSeq (zRet (xC (.bl false))) zNil) zNil) (zSeq (zIf (yNot (yV (xCB vAll (aCons (c3_law φ) aNil)))) (zSeq (zRet (xC (.bl false))) zNil) zNil) (zSeq (zAsg (xCB vRepr (aCons (xVar 7) aNil)) (gmName 9)) (zSeq (zDrop (xBM "list" mClear (xVar 7) aNil)) (zSeq (zIf (yCmp vNe (xCB vRepr (aCons (xCall 1 1 (fun xs _ => xs) 0 (m_busiest φ) (bArgs (aCons (xVar 2) aNil) aNil)) aNil)) (xVar 9)) (zSeq (zRet (xC (.bl false))) zNil) zNil) (zSeq (zAsg (xCall 2 2 (fun xs _ => xs) 0 (m__law_purse φ) (bArgs (aCons (xVar 0) (aCons (xC (.int 2)) aNil)) aNil)) (gmName 1)) (zSeq (zAsg (xOp vIx (xLst (aCons (xC (.bl true)) (aCons (xC (.bl false)) (aCons (xC .non) (aCons (xC (.str "1")) (aCons (xTup (aCons (xC (.int 1)) aNil)) (aCons (xLst (aCons (xC (.int 1)) aNil)) (aCons (xOp vSub (xUn vNeg (xC (.int 1))) (xCall 2 2 (fun xs _ => xs) 0 (m__law_take φ) (bArgs (aCons (xVar 1) (aCons (xOp vPow (xC (.int 10)) (xC (.int 30))) aNil)) aNil))) (aCons (xC (.str "")) aNil))))))))) (xCall 2 2 (fun xs _ => xs) 0 (m__law_take φ) (bArgs (aCons (xVar 1) (aCons (xC (.int 8)) aNil)) aNil))) (gmName 10)) (zSeq (zFor (iAny (xLst (aCons (xVar 10) (aCons (xUn vNeg (xC (.int 1))) (aCons (xOp vAdd (xOp vPow (xC (.int 10)) (xC (.int 60))) (xC (.int 1))) (aCons (xOp vMul (xOp vPow (xC (.int 10)) (xC (.int 49))) (xOp vPow (xC (.int 10)) (xC (.int 50)))) aNil)))))) (gmName 11) (l2_law φ)) (zSeq (zIf (yOr (yNot (yV (xCall 3 3 (fun xs _ => xs) 0 (m__law_refused φ) (bArgs (aCons (xVar 8) (aCons (xC (.int 0)) (aCons (xC (.int 0)) aNil))) aNil)))) (yNot (yV (xCall 3 3 (fun xs _ => xs) 0 (m__law_refused φ) (bArgs (aCons (xVar 8) (aCons (xOp vAdd (xC (.int 9)) (xCall 2 2 (fun xs _ => xs) 0 (m__law_take φ) (bArgs (aCons (xVar 1) (aCons (xOp vPow (xC (.int 10)) (xC (.int 30))) aNil)) aNil))) (aCons (xC (.int 0)) aNil))) aNil))))) (zSeq (zRet (xC (.bl false))) zNil) zNil) (zSeq (zRet (xAnd (xOp vEq (xMeth ((59, ⟨0, 1, 0, (fun xs _ => xs), (m_House_clock φ)⟩) :: []) (xVar 8) (bArgs aNil aNil)) (xC (.int 0))) (xOp vEq (xMeth ((59, ⟨0, 1, 0, (fun xs _ => xs), (m_House_history φ)⟩) :: []) (xVar 8) (bArgs aNil aNil)) (xLst aNil)))) zNil)))))))))))))))))))
  obtain ⟨e6, e7, h4, j, S2, q2⟩ := lawB (φ := φ) (b := b) (ns := ns) (m := m) g1 l1 (zSeq (zAsg (xTup (aCons (xCall 2 2 (fun xs _ => xs) 0 (m__law_purse φ) (bArgs (aCons (xVar 0) (aCons (xC (.int 1)) aNil)) aNil)) (aCons (xMake 59 0 1 (fun xs _ => xs) 0 (m_House___init__ φ) (bArgs aNil aNil)) aNil))) (gmTup 2 (gmsCons (gmName 1) (gmsCons (gmName 8) gmsNil)))) (zSeq (zAsg (xOp vAdd (xC (.int 1)) (xCall 2 2 (fun xs _ => xs) 0 (m__law_take φ) (bArgs (aCons (xVar 1) (aCons (xC (.int 8)) aNil)) aNil))) (gmName 2)) (zSeq (zAsg (xCall 1 1 (fun xs _ => xs) 0 (m_busiest φ) (bArgs (aCons (xVar 2) aNil) aNil)) (gmName 7)) (zSeq (zIf (yOr (yNot (yV (xCB vIsi (aCons (xVar 7) (aCons (xC (.ty "list")) aNil))))) (yOr (yCmp vNe (xCB vLen (aCons (xVar 7) aNil)) (xVar 2)) (yCmp vNe (c2_law φ) (xOp vMulL (xLst (aCons (xC (.str "teller")) aNil)) (xVar 2))))) (zSeq (zRet (xC (.bl false))) zNil) zNil) (zSeq (zIf (yNot (yV (xCB vAll (aCons (c3_law φ) aNil)))) (zSeq (zRet (xC (.bl false))) zNil) zNil) (zSeq (zAsg (xCB vRepr (aCons (xVar 7) aNil)) (gmName 9)) (zSeq (zDrop (xBM "list" mClear (xVar 7) aNil)) (zSeq (zIf (yCmp vNe (xCB vRepr (aCons (xCall 1 1 (fun xs _ => xs) 0 (m_busiest φ) (bArgs (aCons (xVar 2) aNil) aNil)) aNil)) (xVar 9)) (zSeq (zRet (xC (.bl false))) zNil) zNil) (zSeq (zAsg (xCall 2 2 (fun xs _ => xs) 0 (m__law_purse φ) (bArgs (aCons (xVar 0) (aCons (xC (.int 2)) aNil)) aNil)) (gmName 1)) (zSeq (zAsg (xOp vIx (xLst (aCons (xC (.bl true)) (aCons (xC (.bl false)) (aCons (xC .non) (aCons (xC (.str "1")) (aCons (xTup (aCons (xC (.int 1)) aNil)) (aCons (xLst (aCons (xC (.int 1)) aNil)) (aCons (xOp vSub (xUn vNeg (xC (.int 1))) (xCall 2 2 (fun xs _ => xs) 0 (m__law_take φ) (bArgs (aCons (xVar 1) (aCons (xOp vPow (xC (.int 10)) (xC (.int 30))) aNil)) aNil))) (aCons (xC (.str "")) aNil))))))))) (xCall 2 2 (fun xs _ => xs) 0 (m__law_take φ) (bArgs (aCons (xVar 1) (aCons (xC (.int 8)) aNil)) aNil))) (gmName 10)) (zSeq (zFor (iAny (xLst (aCons (xVar 10) (aCons (xUn vNeg (xC (.int 1))) (aCons (xOp vAdd (xOp vPow (xC (.int 10)) (xC (.int 60))) (xC (.int 1))) (aCons (xOp vMul (xOp vPow (xC (.int 10)) (xC (.int 49))) (xOp vPow (xC (.int 10)) (xC (.int 50)))) aNil)))))) (gmName 11) (l2_law φ)) (zSeq (zIf (yOr (yNot (yV (xCall 3 3 (fun xs _ => xs) 0 (m__law_refused φ) (bArgs (aCons (xVar 8) (aCons (xC (.int 0)) (aCons (xC (.int 0)) aNil))) aNil)))) (yNot (yV (xCall 3 3 (fun xs _ => xs) 0 (m__law_refused φ) (bArgs (aCons (xVar 8) (aCons (xOp vAdd (xC (.int 9)) (xCall 2 2 (fun xs _ => xs) 0 (m__law_take φ) (bArgs (aCons (xVar 1) (aCons (xOp vPow (xC (.int 10)) (xC (.int 30))) aNil)) aNil))) (aCons (xC (.int 0)) aNil))) aNil))))) (zSeq (zRet (xC (.bl false))) zNil) zNil) (zSeq (zRet (xAnd (xOp vEq (xMeth ((59, ⟨0, 1, 0, (fun xs _ => xs), (m_House_clock φ)⟩) :: []) (xVar 8) (bArgs aNil aNil)) (xC (.int 0))) (xOp vEq (xMeth ((59, ⟨0, 1, 0, (fun xs _ => xs), (m_House_history φ)⟩) :: []) (xVar 8) (bArgs aNil aNil)) (xLst aNil)))) zNil)))))))))))))
  obtain ⟨b2, h, t, n, z, S3, q3, hH3⟩ := lawC (φ := φ) (b := b) (k := k) (h4 := h4) (j := j) (S := S2) (ns := ns) (m := m) (e6 := e6) (e7 := e7) (by omega) (zSeq (zAsg (xCall 2 2 (fun xs _ => xs) 0 (m__law_purse φ) (bArgs (aCons (xVar 0) (aCons (xC (.int 2)) aNil)) aNil)) (gmName 1)) (zSeq (zAsg (xOp vIx (xLst (aCons (xC (.bl true)) (aCons (xC (.bl false)) (aCons (xC .non) (aCons (xC (.str "1")) (aCons (xTup (aCons (xC (.int 1)) aNil)) (aCons (xLst (aCons (xC (.int 1)) aNil)) (aCons (xOp vSub (xUn vNeg (xC (.int 1))) (xCall 2 2 (fun xs _ => xs) 0 (m__law_take φ) (bArgs (aCons (xVar 1) (aCons (xOp vPow (xC (.int 10)) (xC (.int 30))) aNil)) aNil))) (aCons (xC (.str "")) aNil))))))))) (xCall 2 2 (fun xs _ => xs) 0 (m__law_take φ) (bArgs (aCons (xVar 1) (aCons (xC (.int 8)) aNil)) aNil))) (gmName 10)) (zSeq (zFor (iAny (xLst (aCons (xVar 10) (aCons (xUn vNeg (xC (.int 1))) (aCons (xOp vAdd (xOp vPow (xC (.int 10)) (xC (.int 60))) (xC (.int 1))) (aCons (xOp vMul (xOp vPow (xC (.int 10)) (xC (.int 49))) (xOp vPow (xC (.int 10)) (xC (.int 50)))) aNil)))))) (gmName 11) (l2_law φ)) (zSeq (zIf (yOr (yNot (yV (xCall 3 3 (fun xs _ => xs) 0 (m__law_refused φ) (bArgs (aCons (xVar 8) (aCons (xC (.int 0)) (aCons (xC (.int 0)) aNil))) aNil)))) (yNot (yV (xCall 3 3 (fun xs _ => xs) 0 (m__law_refused φ) (bArgs (aCons (xVar 8) (aCons (xOp vAdd (xC (.int 9)) (xCall 2 2 (fun xs _ => xs) 0 (m__law_take φ) (bArgs (aCons (xVar 1) (aCons (xOp vPow (xC (.int 10)) (xC (.int 30))) aNil)) aNil))) (aCons (xC (.int 0)) aNil))) aNil))))) (zSeq (zRet (xC (.bl false))) zNil) zNil) (zSeq (zRet (xAnd (xOp vEq (xMeth ((59, ⟨0, 1, 0, (fun xs _ => xs), (m_House_clock φ)⟩) :: []) (xVar 8) (bArgs aNil aNil)) (xC (.int 0))) (xOp vEq (xMeth ((59, ⟨0, 1, 0, (fun xs _ => xs), (m_House_history φ)⟩) :: []) (xVar 8) (bArgs aNil aNil)) (xLst aNil)))) zNil)))))
  obtain ⟨f1, f2, f3, f4, f5, f6, f7, f9, f10, f11, S4, q4, hH4⟩ := lawD (φ := φ) (b := b2) (k := k) (h4 := h4) (j := j) (h := h) (t := t) (n := n) (z := z) (S := S3) (ns := ns) (e6 := e6) (by omega) hH3 (zSeq (zRet (xAnd (xOp vEq (xMeth ((59, ⟨0, 1, 0, (fun xs _ => xs), (m_House_clock φ)⟩) :: []) (xVar 8) (bArgs aNil aNil)) (xC (.int 0))) (xOp vEq (xMeth ((59, ⟨0, 1, 0, (fun xs _ => xs), (m_House_history φ)⟩) :: []) (xVar 8) (bArgs aNil aNil)) (xLst aNil)))) zNil)
  have hc := clock_ok (φ := φ) hH4
  have hh := history_ok (φ := φ) hH4
  obtain ⟨st, dl, el, d, ms, ga, _⟩ := id hH4
  have n5 : (S4 ++ [Ob.lst []])[S4.length]? = some (.lst []) := get_new
  generalize hS5 : S4 ++ [Ob.lst []] = S5 at *
  have n6 : (S5 ++ [Ob.lst []])[S5.length]? = some (.lst []) := get_new
  have n56 := get_app (T := [Ob.lst []]) n5
  have he := eq_nilB n56 n6
  generalize hS6 : S5 ++ [Ob.lst []] = S6 at *
  have hrun : b_law φ [some (.scr ns), none, none, none, none, none, none, none, none, none, none, none, none, none, none] [] = .ok (.rt (.bl true)) S6 := by
    refine (show b_law φ _ _ = _ from q1).trans (q2.trans (q3.trans (q4.trans ?_)))
    simp! only [ga, hc, hh, hS6, he]
  exact ⟨S6, by simp! only [m_law, hrun]⟩
theorem law_pure (ns : List Int) (hl : ns.length ≤ 63) : ∃ S', m_law 30000 [.scr ns] [] = .ok (.bl true) S' := law_any (by decide) ns

end Nt

open PySem PySem.W PySem.Calls PyProof.Rows
set_option maxRecDepth 100000 in
set_option maxHeartbeats 0 in
theorem PySem.Challenge.cw_neithertells_k47_bounds_holds : PySem.Challenge.rw_neithertells_k47_bounds.Holds := by
  w_on; o_law
  refine HandSHeadRun.head_any (r := PySem.W.OpenLaw.row PySem.Challenge.rw_neithertells_k47_bounds) (q := view (PySem.W.OpenLaw.row PySem.Challenge.rw_neithertells_k47_bounds).prog [50]) (H := Nt.hk) (ob := Nt.ob) (M := 8000) (loose := Nt.looseN) (d := HandSHeadRun.topDef (PySem.W.OpenLaw.row PySem.Challenge.rw_neithertells_k47_bounds).prog 50) (kwd := []) Nt.ob_eq
    (by kernel_rfl) (fun s => by kernel_rfl) Nt.run (by kernel_rfl) (by kernel_rfl) (by kernel_rfl) (by rfl) (by first | assumption | decide +kernel) (by decide +kernel) ⟨rfl, rfl, rfl, rfl, rfl, by decide +kernel⟩ ?hw ?hc
  case hw => w_witness2
  case hc =>
    refine Nt.walkG (l := PySem.Challenge.rw_neithertells_k47_bounds) (n := 63) (k := 18) (x := "_law_script") (CX := Nt.CXA PySem.Challenge.rw_neithertells_k47_bounds.prog) rfl (by decide) (by kernel_rfl) ⟨rfl, by decide, by decide⟩ ?F (fun _ _ _ _ z => Nt.CXA.no z)
    intro w mg fa h Y G hmg0
    obtain ⟨K, KX, c⟩ := Y
    have hmg : mg ("law" : PySem.Str) = some (.ref fa) := by
      have e : (HandSHeadRun.topDef (PySem.W.OpenLaw.row PySem.Challenge.rw_neithertells_k47_bounds).prog 50).name = ("law" : PySem.Str) := by kernel_rfl
      rw [← e]
      exact hmg0
    have T := Nt.txt_mk KX G c
    obtain ⟨fd, F⟩ := T.F_law
    have e := hmg.symm.trans T.g_law
    cases e
    have b := L2.FunD.bindsA (ps := ["_law_script"]) F fun _ _ _ _ _ _ us hl => match us, hl with | [_], _ => rfl
    exact ⟨K, fd, Nt.spM Nt.NN K 1 (Nt.m_law 30000), KX, fun s v => b s [v] rfl, fun H a ns hl hO hS => Nt.law_end hO hS (Nt.law_pure ns hl), fun base _ _ => Nt.any_okG ((Nt.fk_law T 30000).fn F)⟩
