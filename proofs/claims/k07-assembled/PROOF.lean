import PyProof.Rows.All
import Wide.All
import OpenK.AllK
import Wide.FinOn
import KE.KUnpackStar
import HandS.ForMost
import HandS.ForExc
import HandS.Evl
import HandS.IsInst
import HandS.CallLocal
import HandS.Defaults
import HandS.TupAny
import HandS.TupLe
import HandS.Flow
import HandS.Head0
import HandS.Head1
import HandS.Head2
import HandS.HeadEnd
import HandS.HeadHook1
import HandS.HeadHook2
import HandS.HeadHook3
import HandS.HeadHook4
import HandS.NoneIn
import HandS.ExcIs
import HandS.MakeKwOnly
import HandS.Small
import KE.DataEq
import HandS.WordsExc
import PySem.Challenge.RW_neithertells_k07_assembled
set_option Elab.async false
set_option linter.all false
set_option maxRecDepth 100000
set_option maxHeartbeats 4000000

namespace Nt
open PySem PySem.Spec PyProof.Rows L2
/-! ### a def behind its name -/
structure Def (P : Program) (w : World) (K : PySem.W.Frag) (mg : Str → Option Value) (base : Heap) (CX : CXT) (k : Nat) (x : Str) (ps : List Str) (sp : Sp) : Prop where
  ex : ∃ (f : Addr) (fd : FuncData), mg x = some (.ref f) ∧ PySem.W.keepIn K (.ref f) = true ∧ Binds K fd ps [] ∧ FnOk P w K mg base CX k f fd ps sp
theorem Def.mono {P : Program} {w : World} {K : PySem.W.Frag} {mg : Str → Option Value} {base : Heap} {CX : CXT} {j k : Nat} {x : Str} {ps : List Str} {sp : Sp} (D : Def P w K mg base CX j x ps sp) (h : j ≤ k) : Def P w K mg base CX k x ps sp := by
  obtain ⟨f, fd, h1, h2, h3, h4⟩ := D.ex
  exact ⟨f, fd, h1, h2, h3, h4.mono h⟩
section
variable {X : Cx} {CX : CXT} {k : Nat} {ps : List Str} {sp : Sp} {E : XK} {x : Str} {p pos : Pos} {e : Expr} {es : List Expr} {t : TA}
theorem pe_callD (D : Def X.prog X.w X.K X.mg X.base CX k x ps sp) (hr : Room k X.A) (hg : Gl X x) (hx : Passes CX X E) (ha : PA X (e :: es) t) (hdb : (x == ("__debug__" : Str)) = false := by decide)
    (he : starEach (e :: es) X.env = (false, eval e X.env) :: starEach es X.env := by rfl) (hpl : (backTo pos (starEach es X.env)).any (·.1) = false := by rfl) :
    PE X (.Call (.Name x p) (e :: es) [] pos) (tCall sp [] E t) := by
  obtain ⟨f, fd, h1, h2, h3, h4⟩ := D.ex
  exact pe_call h4 hr hg h1 h2 h3 .nil hx ha hdb he hpl
theorem pe_gint {i : Int} (hg : Gl X x) (hm : ∃ t, X.mg x = some (.int i t)) (hd : (x == ("__debug__" : Str)) = false := by decide) : PE X (.Name x pos) (tC (.int i)) := by
  obtain ⟨t, h⟩ := hm
  exact pe_glob hg h ⟨t, rfl⟩ hd
theorem pe_gref {a : Addr} (hg : Gl X x) (hm : X.mg x = some (.ref a)) (hd : (x == ("__debug__" : Str)) = false := by decide) : PE X (.Name x pos) (tC (.ref a)) := pe_glob hg hm rfl hd
theorem pe_gstr {z : Str} (hg : Gl X x) (hm : ∃ t, X.mg x = some (.str z t)) (hd : (x == ("__debug__" : Str)) = false := by decide) : PE X (.Name x pos) (tC (.str z)) := by
  obtain ⟨t, h⟩ := hm
  exact pe_glob hg h ⟨t, rfl⟩ hd
end
/-! ### word, *parts = a tuple -/
section
variable {X : Cx} {pos : Pos}
def gStar (K : PySem.W.Frag) (n i : Nat) (t : TGs) : TG := fun v σ H Q => ∃ a xs, v = .ref a ∧ SqT K H a xs ∧ n ≤ xs.length + 1 ∧ i < n ∧
  ∀ p, H p = none → t (xs.take i ++ [.ref p] ++ (xs.drop i).drop (xs.length + 1 - n)) σ (upd H p (.lst ((xs.drop i).take (xs.length + 1 - n)))) Q
theorem pg_star {es : List Expr} {k : Nat} {t : TGs} {n i : Nat} (hc : X.calm = true) (h : PGs X es t)
    (hlen : (assignEach es X.env).length = n := by rfl) (hstar : (assignEach es X.env).findIdx? (·.1) = some i := by rfl) : PG X (.Tuple es k pos) (gStar X.K n i t) := by
  refine ⟨fun pins s σ H v u Q I r hw => ?_⟩
  obtain ⟨a, xs, e1, hq, hn, hi, hw⟩ := hw
  subst e1
  cases r
  obtain ⟨its, rv, hl, hz⟩ := I.tuple hq
  have hxl : xs.length = its.length := rv.length
  have hh := I.ok.hd hc
  have hlt : a ≠ s.heap.objs.size := by obtain ⟨o, ho, _⟩ := hl; exact Nat.ne_of_lt (Heap.lt_size ho)
  have hsz : its.toArray.size = its.length := by simp
  rw [PyProof.Rows.assign_Tuple]
  refine wpAny_bind (wpAny_standAt ?_)
  unfold unpack
  rw [hlen, hstar]
  refine wpAny_bind (wpAny_holding ?_)
  unfold unpackItems
  refine wpAny_bind ?_
  unfold notIterableAtAll
  refine wpAny_bind (wpAny_specialOf hl.typeIs slot_tuple_iter.lookup ?_)
  refine wpAny_pure ?_
  simp only [Bool.false_eq_true, if_false]
  refine wpAny_bind (wpAny_holding (iter_tuple hl ?_))
  refine wpAny_bind (wpAny_holding (draw_tuple hlt i 0 _ _ ⟨_, Heap.get?_push_size _ rfl, rfl, rfl⟩ (hl.push _) (by omega) fun h₁ hit₁ hs₁ => ?_))
  have hl₁ : IsTup h₁ a its.toArray := (hl.push _).extBut hs₁.extBut hlt
  rw [Nat.zero_add] at hit₁
  have hit₁' := hit₁
  obtain ⟨oi, hoi, _⟩ := hit₁'
  have hl₁' := hl₁
  obtain ⟨ol, hol, _⟩ := hl₁'
  rw [List.drop_zero]
  have hfl : (its.toArray.toList.take i).length = i := by rw [List.length_take, Array.length_toList]; omega
  rw [if_neg (show ¬ ((its.toArray.toList.take i).length < i) by rw [hfl]; omega)]
  refine wpAny_bind (wpAny_holding (PySem.W.kun_collect (s := { s with heap := h₁ }) (T := "tuple_iterator") (.inr (.inr (.inr rfl))) (Walks.tuple (A := X.A.in1) hh s.heap.objs.size a hlt its.toArray) (fun j u st => st.1.typeIs) (k := i) (by omega) ⟨hit₁, hl₁⟩ (Heap.lt_size hoi) (Heap.lt_size hol) (fun h₂ tk hk => ?_) (by omega)))
  have hrl : (its.toArray.toList.drop i).length = its.length - i := by rw [List.length_drop, Array.length_toList, hsz]
  have hmid : (its.toArray.toList.drop i).length - (n - 1 - i) = xs.length + 1 - n := by rw [hrl]; omega
  show wpAny _ _ (if (its.toArray.toList.drop i).length < n - 1 - i then _ else _) _ _ _
  rw [if_neg (by rw [hrl]; omega)]
  show wpAny _ _ (newList ((its.toArray.toList.drop i).take ((its.toArray.toList.drop i).length - (n - 1 - i))) >>= fun d => pure (its.toArray.toList.take i ++ [d] ++ (its.toArray.toList.drop i).drop ((its.toArray.toList.drop i).length - (n - 1 - i)))) _ _ _
  rw [hmid]
  have he : Heap.ExtBut s.heap.objs.size s.heap h₂ := fun b o hb e => hk b o hb (hs₁.extBut b o hb (Heap.get?_push_of_some _ e))
  have I1 : Inv X pins σ H { s with heap := h₂, toks := tk } := I.kept (t' := tk) fun b o e => he b o (Nat.ne_of_lt (Heap.lt_size e)) e
  have htl : its.toArray.toList = its := by simp
  rw [htl]
  refine wpAny_bind (wpAny_newList ?_ ?_)
  · refine wpAny_pure ?_
    have hf : H h₂.objs.size = none := I1.hok.fresh (Nat.le_refl _)
    have I2 := I1.laid (a := h₂.objs.size) (o := .lst ((xs.drop i).take (xs.length + 1 - n))) (h' := h₂.push { cls := .type "list", data := .seq ((its.drop i).take (xs.length + 1 - n)).toArray }) (t' := tk) (fun b u e => Heap.get?_push_of_some _ e) (Nat.le_refl _)
      ⟨by rw [List.length_take, List.length_drop]; omega, _, 0, (rv.drop i).take _, Heap.get?_push_size _ rfl⟩
    exact h.run pins _ σ _ _ _ Q I2 (((rv.take i).append (.cons (show RelV (.ref h₂.objs.size) (.ref h₂.objs.size) from rfl) .nil)).append ((rv.drop i).drop _)) (hw _ hf)
  · rw [List.length_take, List.length_drop]; omega
theorem pgs_star {e : Expr} {p : Pos} {t : TG} (h1 : PG X e t) (hs : (assignEach [.Starred e p] X.env).map (·.2) = [assign e X.env] := by rfl) : PGs X [.Starred e p] (gCons t gNil) := by
  refine ⟨fun pins s σ H vs us Q I r h => ?_⟩
  obtain ⟨v, vr, e1, h⟩ := h
  subst e1
  cases r with
  | cons r rr =>
    rw [hs]
    have h2 := h1.run pins s σ H v _ (fun σ' H' => gNil vr σ' H' Q) I r h
    refine assignInOrder_cons (thn h2 fun _ s1 ⟨σ', H', I', q⟩ => ?_)
    exact pgs_nil.run pins s1 σ' H' vr _ Q I' rr q
end

/-! ### a def from its text -/
section
variable {P : Program} {w : World} {K : PySem.W.Frag} {mg : Str → Option Value} {base : Heap} {x qual : Str} {params : Arguments} {body : List Stmt} {scope : Scope}
theorem mkDef {CX : CXT} {N ps : List Str} {k : Nat} {sp : Sp} {f : Addr} (F : ∃ fd, FunD K x qual params body scope [] [] f fd) (g : mg x = some (.ref f)) (S : FnScope N ps scope)
    (hb : ∀ (kV doc pm : Value) (an : Option Addr) (cdv ct : Value) (us : List Value), us.length = ps.length → bindArgs (PySem.W.fnOf x qual params body scope .none kV doc pm an cdv ct) ⟨us, []⟩ = pure (ps.zip us))
    (len : ∀ vs H Q E, sp vs H Q E → vs.length = ps.length)
    (hbody : ∀ (cdv : Value) (A : Around) (outer : List Env) (s : Shared) (H : Hp) (vs : List V) (Q : VK) (E : XK), Room k (A.deeper (envOfC qual scope s.heap.objs.size f cdv)) → sp vs H Q E →
      ∃ t, PSs (cxOf CX P w K mg base N qual scope f cdv A outer s H E) body t ∧ t { nx := fun _ H' => Q .non H', rt := Q } (start N vs) H) : Def P w K mg base CX (k + 1) x ps sp := by
  obtain ⟨fd, F⟩ := F
  exact ⟨f, fd, g, F.kp, F.bindsN hb, F.ok S len hbody⟩
end
/-! ### a written dict with text keys -/
structure DTab (K : PySem.W.Frag) (w : World) (a : Addr) (kvs : List (Str × V)) : Prop where
  kd : ∃ es n, KDict K w a es n
  val : ∀ z v, kvs.lookup z = some v → ∃ u, PySem.W.nsIn K a z = some (some u) ∧ RelV v u
  no : ∀ z, kvs.lookup z = none → PySem.W.nsIn K a z = some none
section
variable {X : Cx} {d : Addr} {kvs : List (Str × V)}
def rInTab (d : Addr) (kvs : List (Str × V)) : R2 := fun x y H Q => ∃ z : Str, x = .str z ∧ y = .ref d ∧ Q (.bl (kvs.lookup z).isSome) H
def rNiTab (d : Addr) (kvs : List (Str × V)) : R2 := fun x y H Q => ∃ z : Str, x = .str z ∧ y = .ref d ∧ Q (.bl (!(kvs.lookup z).isSome)) H
def rIxTab (d : Addr) (kvs : List (Str × V)) : R2 := fun x y H Q => ∃ (z : Str) (v : V), x = .ref d ∧ y = .str z ∧ kvs.lookup z = some v ∧ Q v H
theorem op_in_tab (D : DTab X.K X.w d kvs) : OpR X (compareOp .In) (rInTab d kvs) := by
  intro pins s σ H x y v u Q I rx ry h
  obtain ⟨z, rfl, rfl, q⟩ := h
  obtain ⟨es, n, kd⟩ := D.kd
  refine op_in_kd kd pins s σ H _ _ v u Q I rx ry ?_
  cases e : kvs.lookup z with
  | none =>
    rw [e] at q
    exact ⟨z, none, rfl, rfl, D.no z e, q⟩
  | some v0 =>
    obtain ⟨u0, h1, _⟩ := D.val z v0 e
    rw [e] at q
    exact ⟨z, some u0, rfl, rfl, h1, q⟩
theorem op_ni_tab (D : DTab X.K X.w d kvs) : OpR X (compareOp .NotIn) (rNiTab d kvs) := by
  intro pins s σ H x y v u Q I rx ry h
  obtain ⟨z, rfl, rfl, q⟩ := h
  obtain ⟨es, n, kd⟩ := D.kd
  refine op_notIn_kd kd pins s σ H _ _ v u Q I rx ry ?_
  cases e : kvs.lookup z with
  | none =>
    rw [e] at q
    exact ⟨z, none, rfl, rfl, D.no z e, q⟩
  | some v0 =>
    obtain ⟨u0, h1, _⟩ := D.val z v0 e
    rw [e] at q
    exact ⟨z, some u0, rfl, rfl, h1, q⟩
theorem ix_tab (D : DTab X.K X.w d kvs) : IxR X (rIxTab d kvs) := by
  intro value slice pins s σ H x y v u Q I rx ry h hs
  obtain ⟨z, v0, rfl, rfl, e, q⟩ := h
  obtain ⟨es, n, kd⟩ := D.kd
  obtain ⟨u0, h1, h2⟩ := D.val z v0 e
  exact ix_kdict value slice pins s σ H _ _ v u Q I rx ry ⟨d, z, v0, rfl, rfl, ⟨es, n, u0, kd.at_, kd.lit, h1, h2⟩, q⟩ hs
end
/-- the table's check by K alone -/
def kTab (K : PySem.W.Frag) (a : Addr) (kvs : List (Str × He.Dv)) : Bool := match K.lookup a with
  | some ⟨_, _, .dict es _, _⟩ => go es.toList kvs
  | _ => false
where go : List DictEntry → List (Str × He.Dv) → Bool
  | [], [] => true
  | e :: es, q :: qs => (match e.key with
    | .str y _ => decide (y = q.1)
    | _ => false) && (He.relB (q.2.v K) e.val && go es qs)
  | _, _ => false
theorem kTab_go {K : PySem.W.Frag} (z : Str) : ∀ {es : List DictEntry} {kvs : List (Str × He.Dv)}, kTab.go K es kvs = true → es.any (·.refKey) = false ∧
    ((∃ v e, kvs.lookup z = some v ∧ es.find? (·.key.isStr z) = some e ∧ RelV (v.v K) e.val) ∨ (kvs.lookup z = none ∧ es.find? (·.key.isStr z) = none))
  | [], [], _ => ⟨rfl, .inr ⟨rfl, rfl⟩⟩
  | [], _ :: _, h => by cases h
  | _ :: _, [], h => by cases h
  | e :: es, q :: qs, h => by
    obtain ⟨h1, h2⟩ := He.ba (show ((match e.key with | .str y _ => decide (y = q.1) | _ => false) && (He.relB (q.2.v K) e.val && kTab.go K es qs)) = true from h)
    obtain ⟨h3, h4⟩ := He.ba h2
    obtain ⟨i1, i2⟩ := kTab_go (K := K) z h4
    obtain ⟨qk, qv⟩ := q
    cases ek : e.key with
    | str y t =>
      rw [ek] at h1
      have ey : y = qk := of_decide_eq_true h1
      refine ⟨?_, ?_⟩
      · rw [List.any_cons, i1]
        simp [DictEntry.refKey, ek]
      · rw [List.find?_cons, List.lookup_cons, ek]
        by_cases hz : z = qk
        · have e1 : (Value.str y t).isStr z = true := by rw [ey, hz]; simp [Value.isStr]
          have e2 : (z == qk) = true := by rw [hz]; simp
          rw [e1, e2]
          exact .inl ⟨qv, e, rfl, rfl, He.relB_ok h3⟩
        · have e1 : (Value.str y t).isStr z = false := by
            rw [ey]
            simp only [Value.isStr]
            cases hq : (qk == z) with
            | false => rfl
            | true => exact absurd (eq_of_beq hq).symm hz
          have e2 : (z == qk) = false := beq_eq_false_iff_ne.mpr hz
          rw [e1, e2]
          exact i2
    | _ =>
      rw [ek] at h1
      cases h1
theorem kTab_ok {K : PySem.W.Frag} {w : World} {a : Addr} {kvs : List (Str × He.Dv)} (h : kTab K a kvs = true) (kd : ∃ es n, KDict K w a es n) : DTab K w a (kvs.map fun q => (q.1, q.2.v K)) := by
  unfold kTab at h
  cases q : K.lookup a with
  | none => rw [q] at h; cases h
  | some o =>
    obtain ⟨oc, od, dt, osl⟩ := o
    rw [q] at h
    cases dt with
    | dict es n =>
      have lk : ∀ z, (kvs.map fun q => (q.1, q.2.v K)).lookup z = (kvs.lookup z).map (He.Dv.v K) := by
        intro z
        clear h q kd
        induction kvs with
        | nil => rfl
        | cons p r ih =>
          obtain ⟨pk, pv⟩ := p
          rw [List.map_cons, List.lookup_cons, List.lookup_cons, ih]
          cases (z == pk) <;> rfl
      refine ⟨kd, fun z v e => ?_, fun z e => ?_⟩
      · rw [lk] at e
        obtain ⟨i1, i2⟩ := kTab_go (K := K) z h
        rcases i2 with ⟨v0, en, e1, e2, e3⟩ | ⟨e1, e2⟩
        · rw [e1] at e
          cases e
          exact ⟨en.val, by unfold PySem.W.nsIn; rw [q]; simp only [e2], e3⟩
        · rw [e1] at e
          cases e
      · rw [lk] at e
        obtain ⟨i1, i2⟩ := kTab_go (K := K) z h
        rcases i2 with ⟨v0, en, e1, e2, e3⟩ | ⟨e1, e2⟩
        · rw [e1] at e
          cases e
        · unfold PySem.W.nsIn
          rw [q]
          simp only [e2, i1]
          rfl
    | _ => cases h
/-- a written tuple at an address -/
def kTup (K : PySem.W.Frag) (a : Addr) (vs : List He.Dv) : Bool := match K.lookup a with
  | some ⟨.type c, _, .seq its _, _⟩ => decide (c = "tuple") && (decide (its.size ≤ 1000) && He.relAll (vs.map (He.Dv.v K)) its.toList)
  | _ => false
theorem kTup_ok {K : PySem.W.Frag} {a : Addr} {vs : List He.Dv} (h : kTup K a vs = true) (H : Hp) : SqT K H a (vs.map (He.Dv.v K)) := by
  unfold kTup at h
  cases q : K.lookup a with
  | none => rw [q] at h; cases h
  | some o =>
    obtain ⟨oc, od, dt, osl⟩ := o
    rw [q] at h
    cases oc with
    | type c =>
      cases dt with
      | seq its n =>
        obtain ⟨h1, h2⟩ := He.ba h
        obtain ⟨h3, h4⟩ := He.ba h2
        have ec : c = "tuple" := of_decide_eq_true h1
        subst ec
        exact .inr ⟨_, its, n, q, rfl, rfl, Nat.le_trans (of_decide_eq_true h3) (by decide), He.relAll_ok h4⟩
      | _ => cases h
    | _ => cases dt <;> cases h
/-- the value under a key of a written dict, if it is an object -/
def tabAt (x k : Str) (K : PySem.W.Frag) : Addr := match PySem.W.nsIn K (He.ga K x) k with
  | some (some (.ref a)) => a
  | _ => 0
/-! ### data -/
theorem Same.seqT {K : PySem.W.Frag} {H H' : Hp} {a : Addr} {xs : List V} (e : Same H H') (h : SqT K H a xs) : SqT K H' a xs := Evl.ex_t e h
theorem Same.new {H : Hp} {p : Addr} {o : HO} (h : H p = none) : Same H (upd H p o) := Evl.Ex.new h
mutual
theorem dp_mono {K : PySem.W.Frag} {H H' : Hp} (e : Same H H') : ∀ {v : V} {d : PyData}, Dp K H v d → Dp K H' v d
  | _, _, .non => .non
  | _, _, .bl b => .bl b
  | _, _, .int i => .int i
  | _, _, .str x => .str x
  | _, _, .lst h a => .lst (e.seq h) (dpAll_mono e a)
  | _, _, .tup h a => .tup (Same.seqT e h) (dpAll_mono e a)
theorem dpAll_mono {K : PySem.W.Frag} {H H' : Hp} (e : Same H H') : ∀ {vs : List V} {ds : List PyData}, DpAll K H vs ds → DpAll K H' vs ds
  | _, _, .nil => .nil
  | _, _, .cons h a => .cons (dp_mono e h) (dpAll_mono e a)
end
theorem dpAll_len {K : PySem.W.Frag} {H : Hp} : ∀ {vs : List V} {ds : List PyData}, DpAll K H vs ds → vs.length = ds.length
  | _, _, .nil => rfl
  | _, _, .cons _ a => congrArg Nat.succ (dpAll_len a)
theorem dpAll_get {K : PySem.W.Frag} {H : Hp} : ∀ {vs : List V} {ds : List PyData} {i : Nat} {v : V}, DpAll K H vs ds → vs[i]? = some v → ∃ d, ds[i]? = some d ∧ Dp K H v d
  | _, _, 0, _, .cons h _, e => by cases e; exact ⟨_, rfl, h⟩
  | _, _, i + 1, _, .cons _ a, e => dpAll_get (i := i) a e
theorem dpAll_get' {K : PySem.W.Frag} {H : Hp} : ∀ {vs : List V} {ds : List PyData} {i : Nat} {d : PyData}, DpAll K H vs ds → ds[i]? = some d → ∃ v, vs[i]? = some v ∧ Dp K H v d
  | _, _, 0, _, .cons h _, e => by cases e; exact ⟨_, rfl, h⟩
  | _, _, i + 1, _, .cons _ a, e => dpAll_get' (i := i) a e
theorem dpAll_drop {K : PySem.W.Frag} {H : Hp} : ∀ {vs : List V} {ds : List PyData} (n : Nat), DpAll K H vs ds → DpAll K H (vs.drop n) (ds.drop n)
  | _, _, 0, h => h
  | _, _, _ + 1, .nil => .nil
  | _, _, n + 1, .cons _ a => dpAll_drop n a
theorem dpAll_take {K : PySem.W.Frag} {H : Hp} : ∀ {vs : List V} {ds : List PyData} (n : Nat), DpAll K H vs ds → DpAll K H (vs.take n) (ds.take n)
  | _, _, 0, h => .nil
  | _, _, _ + 1, .nil => .nil
  | _, _, n + 1, .cons h a => .cons h (dpAll_take n a)
theorem dpAll_append {K : PySem.W.Frag} {H : Hp} : ∀ {vs us : List V} {ds es : List PyData}, DpAll K H vs ds → DpAll K H us es → DpAll K H (vs ++ us) (ds ++ es)
  | _, _, _, _, .nil, h => h
  | _, _, _, _, .cons h a, k => .cons h (dpAll_append a k)
def tyN : PyData → String
  | .none => "NoneType"
  | .bool _ => "bool"
  | .int _ => "int"
  | .str _ => "str"
  | .list _ => "list"
  | .tuple _ => "tuple"
  | .dict _ => "dict"
theorem dp_ty {K : PySem.W.Frag} {H : Hp} {v : V} {d : PyData} (h : Dp K H v d) : TyX K H v (.type (tyN d)) := by
  cases h with
  | non => exact .base .non
  | bl b => exact .base (.bl b)
  | int i => exact .base (.int i)
  | str x => exact .base (.str x)
  | lst q _ =>
    rcases q with (q | ⟨o, q⟩) | ⟨o, its, n, h1, h2, _⟩
    · exact .base (.lst q)
    · exact .base (.frz q)
    · exact .kList h1 h2
  | tup q _ =>
    rcases q with (q | ⟨o, q⟩) | ⟨o, its, n, h1, h2, _⟩
    · exact .base (.tup q)
    · exact .fTuple q
    · exact .kTuple h1 h2
def isInt : PyData → Bool
  | .int _ => true
  | .bool _ => true
  | _ => false
def isBool : PyData → Bool
  | .bool _ => true
  | _ => false
def isStr : PyData → Bool
  | .str _ => true
  | _ => false
def isTup : PyData → Bool
  | .tuple _ => true
  | _ => false
def isLst : PyData → Bool
  | .list _ => true
  | _ => false
theorem kit_int (d : PyData) : kitB (tyN d) "int" = some (isInt d) := by cases d <;> kernel_rfl
theorem kit_bool (d : PyData) : kitB (tyN d) "bool" = some (isBool d) := by cases d <;> kernel_rfl
theorem kit_str (d : PyData) : kitB (tyN d) "str" = some (isStr d) := by cases d <;> kernel_rfl
theorem kit_tup (d : PyData) : kitB (tyN d) "tuple" = some (isTup d) := by cases d <;> kernel_rfl
theorem kit_lst (d : PyData) : kitB (tyN d) "list" = some (isLst d) := by cases d <;> kernel_rfl
theorem isi_d {K : PySem.W.Frag} {H : Hp} {v : V} {d : PyData} {n : String} {b : Bool} (h : Dp K H v d) (k : kitB (tyN d) n = some b) : Evl.RC (rIsi K) [v, .ty n] H (.bl b) := fun H1 e Q q =>
  ⟨v, .ty n, _, _, b, rfl, .ty n, dp_ty (dp_mono e h), kit_ty k, q H1 (Evl.Ex.refl H1)⟩
end Nt

namespace Nt
open PySem PySem.Spec PyProof.Rows L2 Evl
/-! ### values: more of Evl -/
section
variable {K : PySem.W.Frag} {σ : L2.St} {H H' : Hp} {ta tb tc te : TE} {x y z v : V} {r r' : R2}
theorem ev_chain {k1 k2 : Bool} (ha : Ev ta σ H x) (hb : Ev tb σ H y) (h1 : RV r x y H (.bl k1)) (hc : k1 = true → Ev tc σ H z) (h2 : k1 = true → RV r' y z H (.bl k2)) : Ev (tChain r r' ta tb tc) σ H (.bl (k1 && k2)) := fun H0 e Q q =>
  ha H0 e _ fun H1 e1 => hb H1 (e.trans e1) _ fun H2 e2 => h1 H2 ((e.trans e1).trans e2) _ fun H3 e3 => ⟨k1, rfl, by
    cases k1 with
    | true =>
      rw [if_pos rfl]
      refine hc rfl H3 (((e.trans e1).trans e2).trans e3) _ fun H4 e4 => ?_
      exact h2 rfl H4 ((((e.trans e1).trans e2).trans e3).trans e4) _ fun H5 e5 => q H5 (e1.trans (e2.trans (e3.trans (e4.trans e5))))
    | false =>
      rw [if_neg Bool.false_ne_true]
      exact q H3 (e1.trans (e2.trans e3))⟩
theorem rv_le {i j : Int} : RV (rI0 fun i j => .bl (decide (i ≤ j))) (.int i) (.int j) H (.bl (decide (i ≤ j))) := rv_I0
theorem rv_lt {i j : Int} : RV (rI0 fun i j => .bl (decide (i < j))) (.int i) (.int j) H (.bl (decide (i < j))) := rv_I0
theorem rv_gt {i j : Int} : RV (rI0 fun i j => .bl (decide (j < i))) (.int i) (.int j) H (.bl (decide (j < i))) := rv_I0
theorem rv_inTab {d : Addr} {kvs : List (Str × V)} {s : Str} : RV (rInTab d kvs) (.str s) (.ref d) H (.bl (kvs.lookup s).isSome) := fun H1 _ _ q => ⟨s, rfl, rfl, q H1 (Ex.refl H1)⟩
theorem rv_niTab {d : Addr} {kvs : List (Str × V)} {s : Str} : RV (rNiTab d kvs) (.str s) (.ref d) H (.bl (!(kvs.lookup s).isSome)) := fun H1 _ _ q => ⟨s, rfl, rfl, q H1 (Ex.refl H1)⟩
theorem rv_ixTab {d : Addr} {kvs : List (Str × V)} {s : Str} (h : kvs.lookup s = some v) : RV (rIxTab d kvs) (.ref d) (.str s) H v := fun H1 _ _ q => ⟨s, v, rfl, rfl, h, q H1 (Ex.refl H1)⟩
theorem rc_lenL {a : Addr} {xs : List V} (h : SqL K H a xs) : RC (rLenS K) [.ref a] H (.int xs.length) := fun H1 e _ q => ⟨a, xs, rfl, .inl (ex_l e h), q H1 (Ex.refl H1)⟩
theorem rc_lenT {a : Addr} {xs : List V} (h : SqT K H a xs) : RC (rLenS K) [.ref a] H (.int xs.length) := fun H1 e _ q => ⟨a, xs, rfl, .inr (ex_t e h), q H1 (Ex.refl H1)⟩
theorem rc_sum {a : Addr} {ns : List Int} (h : SqL K H a (ns.map V.int)) : RC (rSum K) [.ref a] H (.int ns.sum) := fun H1 e _ q => ⟨a, ns, rfl, ex_l e h, q H1 (Ex.refl H1)⟩
theorem rv_notN : RV (fun x y H Q => y = .non ∧ Q (.bl (!decide (x = .non))) H) v .non H (.bl (!decide (v = .non))) := fun H1 _ _ q => ⟨rfl, q H1 (Ex.refl H1)⟩
theorem rv_isN : RV (fun x y H Q => y = .non ∧ Q (.bl (decide (x = .non))) H) v .non H (.bl (decide (v = .non))) := fun H1 _ _ q => ⟨rfl, q H1 (Ex.refl H1)⟩
/-- a comprehension without a test, its items known one by one -/
theorem el_mapL {a : Addr} {xs ys : List V} {tl : TE} {j : Nat} {vs : List Nat} (h : Ev tl σ H (.ref a)) (hx : SqL K H a xs) (hl : ys.length = xs.length) (hz : xs.length ≤ 40000) (hw : ∀ x, wipe ((wipe σ vs).set j (some x)) vs = wipe σ vs)
    (he : ∀ (i : Nat) (x y : V) H1, Ex H H1 → xs[i]? = some x → ys[i]? = some y → Ev te ((wipe σ vs).set j (some x)) H1 y) :
    EvL (tLc (iList K tl) (gName j) tYes te vs) σ H ys := fun H0 e Q q => h H0 e _ fun H1 e1 => ⟨a, rfl, ⟨xs, ex_l (e.trans e1) hx⟩, fun Dl hD =>
  lc_list (xs := xs) (fun i H' => H1 Dl = none ∧ Ex H1 H' ∧ H' Dl = some (.lst (ys.take i))) ⟨hD, Ex.new hD, upd_same⟩ (fun i H' _ p => ex_l ((e.trans e1).trans p.2.1) hx) (fun i x H' hi p => ⟨hw x, by
      obtain ⟨p1, p2, p3⟩ := p
      have hlt : i < xs.length := (List.getElem?_eq_some_iff.mp hi).1
      obtain ⟨y, hy⟩ : ∃ y, ys[i]? = some y := ⟨ys[i], List.getElem?_eq_getElem (by omega)⟩
      dsimp only [tYes]
      rw [if_pos rfl]
      refine he i x y H' ((e.trans e1).trans p2) hi hy H' (Ex.refl _) _ fun H2 e2 => ⟨ys.take i, e2 _ _ p3, sz_lt (by rw [List.length_take]; omega), p1, Ex.mut (p2.trans e2) p1, ?_⟩
      rw [upd_same, List.take_add_one, hy]
      rfl⟩)
    (fun H' p => q Dl H' (fresh_back e1 p.1) (e1.trans p.2.1) (by rw [p.2.2, ← hl, List.take_length]))⟩
theorem el_mapT {a : Addr} {xs ys : List V} {tl : TE} {j : Nat} {vs : List Nat} (h : Ev tl σ H (.ref a)) (hx : SqT K H a xs) (hl : ys.length = xs.length) (hz : xs.length ≤ 40000) (hw : ∀ x, wipe ((wipe σ vs).set j (some x)) vs = wipe σ vs)
    (he : ∀ (i : Nat) (x y : V) H1, Ex H H1 → xs[i]? = some x → ys[i]? = some y → Ev te ((wipe σ vs).set j (some x)) H1 y) :
    EvL (tLc (iTup K tl) (gName j) tYes te vs) σ H ys := fun H0 e Q q => h H0 e _ fun H1 e1 => ⟨a, rfl, ⟨xs, ex_t (e.trans e1) hx⟩, fun Dl hD =>
  lc_tup (xs := xs) (fun i H' => H1 Dl = none ∧ Ex H1 H' ∧ H' Dl = some (.lst (ys.take i))) ⟨hD, Ex.new hD, upd_same⟩ (fun i H' _ p => ex_t ((e.trans e1).trans p.2.1) hx) (fun i x H' hi p => ⟨hw x, by
      obtain ⟨p1, p2, p3⟩ := p
      have hlt : i < xs.length := (List.getElem?_eq_some_iff.mp hi).1
      obtain ⟨y, hy⟩ : ∃ y, ys[i]? = some y := ⟨ys[i], List.getElem?_eq_getElem (by omega)⟩
      dsimp only [tYes]
      rw [if_pos rfl]
      refine he i x y H' ((e.trans e1).trans p2) hi hy H' (Ex.refl _) _ fun H2 e2 => ⟨ys.take i, e2 _ _ p3, sz_lt (by rw [List.length_take]; omega), p1, Ex.mut (p2.trans e2) p1, ?_⟩
      rw [upd_same, List.take_add_one, hy]
      rfl⟩)
    (fun H' p => q Dl H' (fresh_back e1 p.1) (e1.trans p.2.1) (by rw [p.2.2, ← hl, List.take_length]))⟩
end
/-! calls by their promise, arguments pure -/
section
variable {σ : L2.St} {H : Hp} {D : Ends} {tz : TS} {sp : Sp} {dvs vs : List V} {E : XK} {ta : TA} {Q : VK}
theorem c_call (ha : EvA ta σ H vs) (k : ∀ H1, Ex H H1 → sp (vs ++ dvs) H1 Q E) : tCall sp dvs E ta σ H Q := ha H (Ex.refl H) _ k
theorem c_asg {i : Nat} (ha : EvA ta σ H vs) (k : ∀ H1, Ex H H1 → sp (vs ++ dvs) H1 (fun v H2 => tz D (σ.set i (some v)) H2) E) : tSeq (tAsg (tCall sp dvs E ta) (gName i)) tz D σ H := ha H (Ex.refl H) _ k
theorem c_ret (ha : EvA ta σ H vs) (k : ∀ H1, Ex H H1 → sp (vs ++ dvs) H1 D.rt E) : tRet (tCall sp dvs E ta) D σ H := ha H (Ex.refl H) _ k
end
/-! ### promises by values -/
def sp1 (K : PySem.W.Frag) (f : PyData → V) : Sp := fun vs H Q _ => ∃ v d, vs = [v] ∧ Dp K H v d ∧ ∀ H', Same H H' → Q (f d) H'
theorem spv1 {K : PySem.W.Frag} {f : PyData → V} {v : V} {d : PyData} {H : Hp} (h : Dp K H v d) : SpV (sp1 K f) [v] H (f d) := fun H1 e Q q E => ⟨v, d, rfl, dp_mono e h, fun H' e' => q H' e'⟩
/-- a promise that nothing asks -/
theorem Def.idle {P : Program} {w : World} {K : PySem.W.Frag} {mg : Str → Option Value} {base : Heap} {CX : CXT} {x qual : Str} {params : Arguments} {body : List Stmt} {scope : Scope} {ps : List Str} {f : Addr} (k : Nat)
    (F : ∃ fd, FunD K x qual params body scope [] [] f fd) (g : mg x = some (.ref f))
    (hb : ∀ (kV doc pm : Value) (an : Option Addr) (cdv ct : Value) (us : List Value), us.length = ps.length → bindArgs (PySem.W.fnOf x qual params body scope .none kV doc pm an cdv ct) ⟨us, []⟩ = pure (ps.zip us)) :
    Def P w K mg base CX k x ps (fun _ _ _ _ => False) := by
  obtain ⟨fd, F⟩ := F
  exact ⟨f, fd, g, F.kp, F.bindsN hb, ⟨fun _ _ _ _ h => h.elim, fun _ _ _ _ _ _ _ _ _ _ _ _ _ h => h.elim⟩⟩
end Nt

namespace Nt
open PySem PySem.Spec PyProof.Rows L2 Evl
/-! ### evaluation while some tracked lists change: M the changing addresses, J what stays true of them -/
structure Wd where
  M : Addr → Bool
  J : Hp → Prop
  live : ∀ H a, J H → M a = true → H a ≠ none
  loc : ∀ H H', J H → (∀ a, M a = true → H' a = H a) → J H'
/-- without the changing ones -/
def Wd.wo (W : Wd) (H : Hp) : Hp := fun a => if W.M a = true then none else H a
theorem Wd.wo_same (W : Wd) (H : Hp) : Same (W.wo H) H := fun a o h => by
  unfold Wd.wo at h
  split at h
  · cases h
  · exact h
/-- a later heap -/
structure Wd.Le (W : Wd) (H H' : Hp) : Prop where
  s : Same (W.wo H) (W.wo H')
  j : W.J H'
theorem Wd.Le.refl {W : Wd} {H : Hp} (h : W.J H) : W.Le H H := ⟨Same.refl _, h⟩
theorem Wd.Le.trans {W : Wd} {H H1 H2 : Hp} (a : W.Le H H1) (b : W.Le H1 H2) : W.Le H H2 := ⟨a.s.trans b.s, b.j⟩
/-- what a def without changes leaves -/
theorem Wd.Le.of_same {W : Wd} {H H' : Hp} (j : W.J H) (s : Same H H') : W.Le H H' := by
  have hm : ∀ a, W.M a = true → H' a = H a := fun a ha => by
    cases q : H a with
    | none => exact absurd q (W.live H a j ha)
    | some o => exact s a o q
  refine ⟨fun a o h => ?_, W.loc H H' j hm⟩
  unfold Wd.wo at h ⊢
  split at h
  · cases h
  · rename_i hn
    rw [if_neg hn]
    exact s a o h
theorem Wd.Le.new {W : Wd} {H : Hp} {p : Addr} {o : HO} (j : W.J H) (h : H p = none) : W.Le H (upd H p o) := .of_same j (Same.new h)
theorem Wd.notM {W : Wd} {H : Hp} {p : Addr} (j : W.J H) (h : H p = none) : W.M p = false := by
  cases q : W.M p with
  | false => rfl
  | true => exact absurd h (W.live H p j q)
theorem Wd.wo_at {W : Wd} {H : Hp} {p : Addr} {o : HO} (hm : W.M p = false) (h : H p = some o) : W.wo H p = some o := by
  unfold Wd.wo
  rw [if_neg (by rw [hm]; exact Bool.false_ne_true)]
  exact h
theorem Wd.dp {W : Wd} {K : PySem.W.Frag} {H : Hp} {v : V} {d : PyData} (h : Dp K (W.wo H) v d) : Dp K H v d := dp_mono (W.wo_same H) h
theorem Wd.Le.dp {W : Wd} {K : PySem.W.Frag} {H H' : Hp} {v : V} {d : PyData} (e : W.Le H H') (h : Dp K (W.wo H) v d) : Dp K (W.wo H') v d := dp_mono e.s h
theorem Wd.Le.dpAll {W : Wd} {K : PySem.W.Frag} {H H' : Hp} {v : List V} {d : List PyData} (e : W.Le H H') (h : DpAll K (W.wo H) v d) : DpAll K (W.wo H') v d := dpAll_mono e.s h

/-- te evaluates to a datum of P -/
def Em (W : Wd) (K : PySem.W.Frag) (te : TE) (σ : L2.St) (H : Hp) (P : PyData → Prop) : Prop := ∀ H1, W.Le H H1 → ∀ Q : VK, (∀ v d H2, W.Le H1 H2 → Dp K (W.wo H2) v d → P d → Q v H2) → te σ H1 Q
def EmA (W : Wd) (K : PySem.W.Frag) (ta : TA) (σ : L2.St) (H : Hp) (P : List PyData → Prop) : Prop := ∀ H1, W.Le H H1 → ∀ Q : List V → Hp → Prop, (∀ vs ds H2, W.Le H1 H2 → DpAll K (W.wo H2) vs ds → P ds → Q vs H2) → ta σ H1 Q
def EmT (W : Wd) (tt : TT) (σ : L2.St) (H : Hp) (P : Bool → Prop) : Prop := ∀ H1, W.Le H H1 → ∀ Q : Bool → Hp → Prop, (∀ b H2, W.Le H1 H2 → P b → Q b H2) → tt σ H1 Q
/-- an int of P, a text of P, a truth of P -/
def IsI (P : Int → Prop) (d : PyData) : Prop := ∃ i, d = .int i ∧ P i
def IsS (P : Str → Prop) (d : PyData) : Prop := ∃ s, d = .str s ∧ P s
def IsB (P : Bool → Prop) (d : PyData) : Prop := ∃ b, d = .bool b ∧ P b
def IsLs (P : List PyData → Prop) (d : PyData) : Prop := ∃ ds, d = .list ds ∧ P ds
def IsTp (P : List PyData → Prop) (d : PyData) : Prop := ∃ ds, d = .tuple ds ∧ P ds
section
variable {W : Wd} {K : PySem.W.Frag} {σ : L2.St} {H H' : Hp} {te ta tb tc : TE} {P P1 P2 P3 : PyData → Prop} {t u : TT} {D : Ends} {tu tw tz : TS}
theorem dpI {v : V} {i : Int} (h : Dp K H v (.int i)) : v = .int i := by cases h; rfl
theorem dpS {v : V} {s : Str} (h : Dp K H v (.str s)) : v = .str s := by cases h; rfl
theorem dpB {v : V} {b : Bool} (h : Dp K H v (.bool b)) : v = .bl b := by cases h; rfl
theorem dpN {v : V} (h : Dp K H v .none) : v = .non := by cases h; rfl
theorem dpT {v : V} {ds : List PyData} (h : Dp K H v (.tuple ds)) : ∃ a xs, v = .ref a ∧ SqT K H a xs ∧ DpAll K H xs ds := by
  cases h with
  | tup h1 h2 => exact ⟨_, _, rfl, h1, h2⟩
theorem dpL {v : V} {ds : List PyData} (h : Dp K H v (.list ds)) : ∃ a xs, v = .ref a ∧ SqL K H a xs ∧ DpAll K H xs ds := by
  cases h with
  | lst h1 h2 => exact ⟨_, _, rfl, h1, h2⟩
theorem Em.mono (e : W.Le H H') (h : Em W K te σ H P) : Em W K te σ H' P := fun H1 a Q q => h H1 (e.trans a) Q q
theorem Em.imp (h : Em W K te σ H P) (i : ∀ d, P d → P1 d) : Em W K te σ H P1 := fun H1 a Q q => h H1 a Q fun v d H2 e hd p => q v d H2 e hd (i d p)
theorem EmT.imp {P P1 : Bool → Prop} (h : EmT W t σ H P) (i : ∀ d, P d → P1 d) : EmT W t σ H P1 := fun H1 a Q q => h H1 a Q fun b H2 e p => q b H2 e (i b p)
theorem EmA.imp {ta : TA} {P P1 : List PyData → Prop} (h : EmA W K ta σ H P) (i : ∀ d, P d → P1 d) : EmA W K ta σ H P1 := fun H1 a Q q => h H1 a Q fun v d H2 e hd p => q v d H2 e hd (i d p)
theorem em_var {i : Nat} {v : V} {d : PyData} (h : σ[i]? = some (some v)) (hd : Dp K (W.wo H) v d) (p : P d) : Em W K (tVar i) σ H P := fun H1 e _ q => ⟨v, h, q v d H1 (.refl e.j) (e.dp hd) p⟩
theorem em_int {i : Int} (p : P (.int i)) : Em W K (tC (.int i)) σ H P := fun H1 e _ q => q _ _ H1 (.refl e.j) (.int i) p
theorem em_str {s : Str} (p : P (.str s)) : Em W K (tC (.str s)) σ H P := fun H1 e _ q => q _ _ H1 (.refl e.j) (.str s) p
theorem em_bl {b : Bool} (p : P (.bool b)) : Em W K (tC (.bl b)) σ H P := fun H1 e _ q => q _ _ H1 (.refl e.j) (.bl b) p
theorem em_non (p : P .none) : Em W K (tC .non) σ H P := fun H1 e _ q => q _ _ H1 (.refl e.j) .non p
/-- what evaluates purely -/
theorem em_of {v : V} {d : PyData} (h : ∀ H1, W.Le H H1 → Ev te σ H1 v) (hd : ∀ H1, W.Le H H1 → Dp K (W.wo H1) v d) (p : P d) : Em W K te σ H P := fun H1 e Q q =>
  h H1 e H1 (Ex.refl _) Q fun H2 e2 => q v d H2 (.of_same e.j e2) (hd H2 (e.trans (.of_same e.j e2))) p
theorem em_op {r : R2} (ha : Em W K ta σ H P1) (hb : Em W K tb σ H P2) (hr : ∀ x y dx dy H1, W.Le H H1 → Dp K (W.wo H1) x dx → P1 dx → Dp K (W.wo H1) y dy → P2 dy → ∀ Q : VK, (∀ v d H2, W.Le H1 H2 → Dp K (W.wo H2) v d → P d → Q v H2) → r x y H1 Q) : Em W K (tOp r ta tb) σ H P := fun H1 e Q q =>
  ha H1 e _ fun x dx H2 e2 hx px => hb H2 (e.trans e2) _ fun y dy H3 e3 hy py => hr x y dx dy H3 (e.trans (e2.trans e3)) (e3.dp hx) px hy py Q fun v d H4 e4 hv pv => q v d H4 (e2.trans (e3.trans e4)) hv pv
theorem em_opI {C : Int → Int → Prop} {g : Int → Int → Int} {P1 P2 P : Int → Prop} (ha : Em W K ta σ H (IsI P1)) (hb : Em W K tb σ H (IsI P2)) (hc : ∀ i j, P1 i → P2 j → C i j ∧ P (g i j)) : Em W K (tOp (rI C fun i j => .int (g i j)) ta tb) σ H (IsI P) :=
  em_op ha hb fun x y dx dy H1 e hx px hy py Q q => by
    obtain ⟨i, rfl, p1⟩ := px
    obtain ⟨j, rfl, p2⟩ := py
    cases dpI hx
    cases dpI hy
    exact ⟨i, j, rfl, rfl, (hc i j p1 p2).1, q _ _ H1 (.refl e.j) (.int _) ⟨_, rfl, (hc i j p1 p2).2⟩⟩
theorem em_opI0 {g : Int → Int → Int} {P1 P2 P : Int → Prop} (ha : Em W K ta σ H (IsI P1)) (hb : Em W K tb σ H (IsI P2)) (hc : ∀ i j, P1 i → P2 j → P (g i j)) : Em W K (tOp (rI0 fun i j => .int (g i j)) ta tb) σ H (IsI P) :=
  em_op ha hb fun x y dx dy H1 e hx px hy py Q q => by
    obtain ⟨i, rfl, p1⟩ := px
    obtain ⟨j, rfl, p2⟩ := py
    cases dpI hx
    cases dpI hy
    exact ⟨i, j, rfl, rfl, q _ _ H1 (.refl e.j) (.int _) ⟨_, rfl, hc i j p1 p2⟩⟩
theorem em_cmpI {g : Int → Int → Bool} {P1 P2 : Int → Prop} {P : Bool → Prop} (ha : Em W K ta σ H (IsI P1)) (hb : Em W K tb σ H (IsI P2)) (hc : ∀ i j, P1 i → P2 j → P (g i j)) : Em W K (tOp (rI0 fun i j => .bl (g i j)) ta tb) σ H (IsB P) :=
  em_op ha hb fun x y dx dy H1 e hx px hy py Q q => by
    obtain ⟨i, rfl, p1⟩ := px
    obtain ⟨j, rfl, p2⟩ := py
    cases dpI hx
    cases dpI hy
    exact ⟨i, j, rfl, rfl, q _ _ H1 (.refl e.j) (.bl _) ⟨_, rfl, hc i j p1 p2⟩⟩
theorem dec_intV (i j : Int) : decide (V.int i = V.int j) = decide (i = j) := by
  by_cases h : i = j
  · subst h; simp
  · rw [decide_eq_false h, decide_eq_false]
    intro q; injection q with q; exact h q
theorem dec_strV (i j : Str) : decide (V.str i = V.str j) = decide (i = j) := by
  by_cases h : i = j
  · subst h; simp
  · rw [decide_eq_false h, decide_eq_false]
    intro q; injection q with q; exact h q
theorem em_eqI {P1 P2 : Int → Prop} {P : Bool → Prop} (ha : Em W K ta σ H (IsI P1)) (hb : Em W K tb σ H (IsI P2)) (hc : ∀ i j, P1 i → P2 j → P (decide (i = j))) : Em W K (tOp rEq ta tb) σ H (IsB P) :=
  em_op ha hb fun x y dx dy H1 e hx px hy py Q q => by
    obtain ⟨i, rfl, p1⟩ := px
    obtain ⟨j, rfl, p2⟩ := py
    cases dpI hx
    cases dpI hy
    exact ⟨rfl, q _ _ H1 (.refl e.j) (.bl _) ⟨_, rfl, by rw [dec_intV]; exact hc i j p1 p2⟩⟩
theorem em_neI {P1 P2 : Int → Prop} {P : Bool → Prop} (ha : Em W K ta σ H (IsI P1)) (hb : Em W K tb σ H (IsI P2)) (hc : ∀ i j, P1 i → P2 j → P (!decide (i = j))) : Em W K (tOp rNe ta tb) σ H (IsB P) :=
  em_op ha hb fun x y dx dy H1 e hx px hy py Q q => by
    obtain ⟨i, rfl, p1⟩ := px
    obtain ⟨j, rfl, p2⟩ := py
    cases dpI hx
    cases dpI hy
    exact ⟨rfl, q _ _ H1 (.refl e.j) (.bl _) ⟨_, rfl, by rw [dec_intV]; exact hc i j p1 p2⟩⟩
theorem em_eqS {P1 P2 : Str → Prop} {P : Bool → Prop} (ha : Em W K ta σ H (IsS P1)) (hb : Em W K tb σ H (IsS P2)) (hc : ∀ i j, P1 i → P2 j → P (decide (i = j))) : Em W K (tOp rEq ta tb) σ H (IsB P) :=
  em_op ha hb fun x y dx dy H1 e hx px hy py Q q => by
    obtain ⟨i, rfl, p1⟩ := px
    obtain ⟨j, rfl, p2⟩ := py
    cases dpS hx
    cases dpS hy
    exact ⟨rfl, q _ _ H1 (.refl e.j) (.bl _) ⟨_, rfl, by rw [dec_strV]; exact hc i j p1 p2⟩⟩
theorem em_neB {P1 P2 : Bool → Prop} {P : Bool → Prop} (ha : Em W K ta σ H (IsB P1)) (hb : Em W K tb σ H (IsB P2)) (hc : ∀ i j, P1 i → P2 j → P (!decide (i = j))) : Em W K (tOp rNe ta tb) σ H (IsB P) :=
  em_op ha hb fun x y dx dy H1 e hx px hy py Q q => by
    obtain ⟨i, rfl, p1⟩ := px
    obtain ⟨j, rfl, p2⟩ := py
    cases dpB hx
    cases dpB hy
    have eq : decide (V.bl i = V.bl j) = decide (i = j) := by cases i <;> cases j <;> rfl
    exact ⟨rfl, q _ _ H1 (.refl e.j) (.bl _) ⟨_, rfl, by rw [eq]; exact hc i j p1 p2⟩⟩
theorem ema_nil {P : List PyData → Prop} (p : P []) : EmA W K tNil σ H P := fun H1 e _ q => q _ _ H1 (.refl e.j) .nil p
theorem ema_cons {tr : TA} {P : List PyData → Prop} (h : Em W K te σ H P1) (hr : ∀ d, P1 d → EmA W K tr σ H fun ds => P (d :: ds)) : EmA W K (tCons te tr) σ H P := fun H1 e _ q =>
  h H1 e _ fun v d H2 e2 hd p => hr d p H2 (e.trans e2) _ fun vs ds H3 e3 hds ps => q (v :: vs) (d :: ds) H3 (e2.trans e3) (.cons (e3.dp hd) hds) ps
theorem em_tup {ta : TA} (h : EmA W K ta σ H fun ds => ds.length ≤ 20000 ∧ P (.tuple ds)) : Em W K (tTup ta) σ H P := fun H1 e _ q => h H1 e _ fun vs ds H2 e2 hds p =>
  ⟨sz_of (by rw [dpAll_len hds]; omega), fun a ha => q (.ref a) (.tuple ds) (upd H2 a (.tup vs)) (e2.trans (.new e2.j ha)) (.tup (st_of (Wd.wo_at (Wd.notM e2.j ha) upd_same)) ((Wd.Le.new e2.j ha).dpAll hds)) p.2⟩
theorem em_lst {ta : TA} (h : EmA W K ta σ H fun ds => ds.length ≤ 20000 ∧ P (.list ds)) : Em W K (tLst ta) σ H P := fun H1 e _ q => h H1 e _ fun vs ds H2 e2 hds p =>
  ⟨sz_of (by rw [dpAll_len hds]; omega), fun a ha => q (.ref a) (.list ds) (upd H2 a (.lst vs)) (e2.trans (.new e2.j ha)) (.lst (sq_of (Wd.wo_at (Wd.notM e2.j ha) upd_same)) ((Wd.Le.new e2.j ha).dpAll hds)) p.2⟩
theorem sqL_wo {a : Addr} {xs : List V} (h : SqL K (W.wo H) a xs) : SqL K H a xs := Same.seq (W.wo_same H) h
theorem sqT_wo {a : Addr} {xs : List V} (h : SqT K (W.wo H) a xs) : SqT K H a xs := Same.seqT (W.wo_same H) h
theorem dp_atI {vs : List V} {ds : List PyData} {i : Int} {d : PyData} (h : DpAll K H vs ds) (e : atI ds i = some d) : ∃ v, atI vs i = some v ∧ Dp K H v d := by
  unfold atI at e ⊢
  rw [dpAll_len h]
  cases q : ixN ds.length i with
  | none => rw [q] at e; cases e
  | some j =>
    rw [q] at e
    exact dpAll_get' h e
/-- xs[i] of a list that the expression makes or names -/
theorem em_ixL {P1 : List PyData → Prop} {P2 : Int → Prop} (ha : Em W K ta σ H (IsLs P1)) (hb : Em W K tb σ H (IsI P2)) (hc : ∀ ds i, P1 ds → P2 i → ∃ d, atI ds i = some d ∧ P d) : Em W K (tOp (rIxL K) ta tb) σ H P :=
  em_op ha hb fun x y dx dy H1 e hx px hy py Q q => by
    obtain ⟨ds, rfl, p1⟩ := px
    obtain ⟨i, rfl, p2⟩ := py
    obtain ⟨a, xs, rfl, hs, hds⟩ := dpL hx
    cases dpI hy
    obtain ⟨d, hd, p⟩ := hc ds i p1 p2
    obtain ⟨v, hv, hdv⟩ := dp_atI hds hd
    exact ⟨a, xs, i, v, rfl, rfl, sqL_wo hs, hv, q v d H1 (.refl e.j) hdv p⟩
theorem em_ixT {P1 : List PyData → Prop} {P2 : Int → Prop} (ha : Em W K ta σ H (IsTp P1)) (hb : Em W K tb σ H (IsI P2)) (hc : ∀ ds i, P1 ds → P2 i → ∃ d, atI ds i = some d ∧ P d) : Em W K (tOp (rIxT K) ta tb) σ H P :=
  em_op ha hb fun x y dx dy H1 e hx px hy py Q q => by
    obtain ⟨ds, rfl, p1⟩ := px
    obtain ⟨i, rfl, p2⟩ := py
    obtain ⟨a, xs, rfl, hs, hds⟩ := dpT hx
    cases dpI hy
    obtain ⟨d, hd, p⟩ := hc ds i p1 p2
    obtain ⟨v, hv, hdv⟩ := dp_atI hds hd
    exact ⟨a, xs, i, v, rfl, rfl, sqT_wo hs, hv, q v d H1 (.refl e.j) hdv p⟩
/-- 'ab'[i] -/
theorem em_ixS {P1 : Str → Prop} {P2 : Int → Prop} {P : Str → Prop} (ha : Em W K ta σ H (IsS P1)) (hb : Em W K tb σ H (IsI P2)) (hc : ∀ s i, P1 s → P2 i → ∃ c, s.length ≤ 20000 ∧ atI s.cps.toList i = some c ∧ P ⟨#[c]⟩) : Em W K (tOp rIxS ta tb) σ H (IsS P) :=
  em_op ha hb fun x y dx dy H1 e hx px hy py Q q => by
    obtain ⟨s, rfl, p1⟩ := px
    obtain ⟨i, rfl, p2⟩ := py
    cases dpS hx
    cases dpI hy
    obtain ⟨c, hl, hc, p⟩ := hc s i p1 p2
    exact ⟨s, i, c, rfl, rfl, sz_of (by omega), hc, q _ _ H1 (.refl e.j) (.str _) ⟨_, rfl, p⟩⟩
/-- tests -/
theorem emt_test {P : Bool → Prop} (h : Em W K te σ H (IsB P)) : EmT W (tTest te) σ H P := fun H1 e Q q => h H1 e _ fun v d H2 e2 hd p => by
  obtain ⟨b, rfl, pb⟩ := p
  cases dpB hd
  exact ⟨b, rfl, q b H2 e2 pb⟩
theorem emt_B {P : Bool → Prop} (h : Em W K te σ H (IsB P)) : EmT W (tB te) σ H P := fun H1 e Q q => h H1 e _ fun v d H2 e2 hd p => by
  obtain ⟨b, rfl, pb⟩ := p
  cases dpB hd
  exact ⟨b, rfl, q b H2 e2 pb⟩
theorem emt_not {P : Bool → Prop} (h : EmT W t σ H fun b => P (!b)) : EmT W (tNot t) σ H P := fun H1 e _ q => h H1 e _ fun b H2 e2 p => q (!b) H2 e2 p
theorem emt_and {P1 P : Bool → Prop} (h1 : EmT W t σ H P1) (h2 : P1 true → EmT W u σ H P) (h3 : P1 false → P false) : EmT W (tAnd t u) σ H P := fun H1 e Q q => h1 H1 e _ fun b H2 e2 p => by
  cases b with
  | true =>
    refine iteT (h2 p H2 (e.trans e2) Q fun b H3 e3 p3 => q b H3 (e2.trans e3) p3)
  | false => exact iteF (q false H2 e2 (h3 p))
theorem emt_or {P1 P : Bool → Prop} (h1 : EmT W t σ H P1) (h2 : P1 false → EmT W u σ H P) (h3 : P1 true → P true) : EmT W (tOr t u) σ H P := fun H1 e Q q => h1 H1 e _ fun b H2 e2 p => by
  cases b with
  | true => exact iteT (q true H2 e2 (h3 p))
  | false => exact iteF (h2 p H2 (e.trans e2) Q fun b H3 e3 p3 => q b H3 (e2.trans e3) p3)
theorem em_if {P1 : Bool → Prop} (h : EmT W t σ H P1) (h1 : P1 true → Em W K ta σ H P) (h2 : P1 false → Em W K tb σ H P) : Em W K (tIf t ta tb) σ H P := fun H1 e Q q => h H1 e _ fun b H2 e2 p => by
  cases b with
  | true => exact iteT (h1 p H2 (e.trans e2) Q fun v d H3 e3 hd p3 => q v d H3 (e2.trans e3) hd p3)
  | false => exact iteF (h2 p H2 (e.trans e2) Q fun v d H3 e3 hd p3 => q v d H3 (e2.trans e3) hd p3)
theorem em_andV {P1 P : Bool → Prop} (h1 : Em W K ta σ H (IsB P1)) (h2 : P1 true → Em W K tb σ H (IsB P)) (h3 : P1 false → P false) : Em W K (tAndV ta tb) σ H (IsB P) := fun H1 e Q q => h1 H1 e _ fun v d H2 e2 hd p => by
  obtain ⟨b, rfl, pb⟩ := p
  cases dpB hd
  refine ⟨b, rfl, ?_⟩
  cases b with
  | true => exact iteT (h2 pb H2 (e.trans e2) Q fun v d H3 e3 hd p3 => q v d H3 (e2.trans e3) hd p3)
  | false => exact iteF (q _ _ H2 e2 (.bl false) ⟨false, rfl, h3 pb⟩)
/-- statements -/
theorem m_asg {i : Nat} (j : W.J H) (h : Em W K te σ H P) (k : ∀ v d H1, W.Le H H1 → Dp K (W.wo H1) v d → P d → tz D (σ.set i (some v)) H1) : tSeq (tAsg te (gName i)) tz D σ H := h H (.refl j) _ fun v d H1 e hd p => k v d H1 e hd p
theorem m_set {i : Nat} (j : W.J H) (h : Em W K te σ H P) (k : ∀ v d H1, W.Le H H1 → Dp K (W.wo H1) v d → P d → D.nx (σ.set i (some v)) H1) : tAsg te (gName i) D σ H := h H (.refl j) _ fun v d H1 e hd p => k v d H1 e hd p
theorem m_ret (j : W.J H) (h : Em W K te σ H P) (k : ∀ v d H1, W.Le H H1 → Dp K (W.wo H1) v d → P d → D.rt v H1) : tRet te D σ H := h H (.refl j) _ fun v d H1 e hd p => k v d H1 e hd p
theorem m_if {P : Bool → Prop} (j : W.J H) (h : EmT W t σ H P) (h1 : P true → ∀ H1, W.Le H H1 → tu { D with nx := tz D } σ H1) (h2 : P false → ∀ H1, W.Le H H1 → tw { D with nx := tz D } σ H1) : tSeq (tIfS t tu tw) tz D σ H := h H (.refl j) _ fun b H1 e p => by
  cases b with
  | true => exact iteT (h1 p H1 e)
  | false => exact iteF (h2 p H1 e)
theorem m_when {P : Bool → Prop} (j : W.J H) (h : EmT W t σ H P) (h1 : P true → ∀ H1, W.Le H H1 → tu { D with nx := tz D } σ H1) (h2 : P false → ∀ H1, W.Le H H1 → tz D σ H1) : tSeq (tIfS t tu tNext) tz D σ H := m_if j h h1 h2
theorem m_ifL {P : Bool → Prop} (j : W.J H) (h : EmT W t σ H P) (h1 : P true → ∀ H1, W.Le H H1 → tu D σ H1) (h2 : P false → ∀ H1, W.Le H H1 → tw D σ H1) : tIfS t tu tw D σ H := h H (.refl j) _ fun b H1 e p => by
  cases b with
  | true => exact iteT (h1 p H1 e)
  | false => exact iteF (h2 p H1 e)
end
end Nt
namespace Nt
open PySem PySem.Spec PyProof.Rows L2 Evl
/-! ### one more changing object: at p stands o -/
def Wd.plus (W : Wd) (p : Addr) (o : HO) : Wd where
  M := fun a => W.M a || a == p
  J := fun H => W.J H ∧ H p = some o
  live := fun H a ⟨j, h⟩ e => by
    rcases Bool.or_eq_true_iff.mp e with q | q
    · exact W.live H a j q
    · rw [eq_of_beq q, h]; exact fun z => nomatch z
  loc := fun H H' ⟨j, h⟩ k => ⟨W.loc H H' j fun a ha => k a (by rw [ha]; rfl), by rw [k p (by rw [beq_self_eq_true, Bool.or_true])]; exact h⟩
theorem Wd.plus_wo {W : Wd} {p : Addr} {ob : HO} {H : Hp} {a : Addr} {o : HO} (h : (W.plus p ob).wo H a = some o) : W.wo H a = some o ∧ a ≠ p := by
  unfold Wd.wo Wd.plus at h
  dsimp only at h
  by_cases hm : (W.M a || a == p) = true
  · rw [if_pos hm] at h; cases h
  · rw [if_neg hm] at h
    have h1 : W.M a = false := by
      cases q : W.M a with
      | false => rfl
      | true => rw [q] at hm; exact absurd rfl hm
    have h2 : a ≠ p := fun q => hm (by rw [q, beq_self_eq_true, Bool.or_true])
    refine ⟨?_, h2⟩
    unfold Wd.wo
    rw [if_neg (by rw [h1]; exact Bool.false_ne_true)]
    exact h
theorem Wd.wo_plus {W : Wd} {p : Addr} {ob : HO} {H : Hp} {a : Addr} {o : HO} (h : W.wo H a = some o) (hn : a ≠ p) : (W.plus p ob).wo H a = some o := by
  unfold Wd.wo at h
  by_cases hm : W.M a = true
  · rw [if_pos hm] at h; cases h
  · rw [if_neg hm] at h
    unfold Wd.wo Wd.plus
    dsimp only
    rw [if_neg]
    · exact h
    · intro q
      rcases Bool.or_eq_true_iff.mp q with q | q
      · exact hm q
      · exact hn (eq_of_beq q)
theorem Wd.plus_same {W : Wd} {p : Addr} {ob : HO} {H : Hp} : Same ((W.plus p ob).wo H) (W.wo H) := fun _ _ h => (Wd.plus_wo h).1
theorem Wd.same_plus {W : Wd} {p : Addr} {ob : HO} {H : Hp} (h : H p = none) : Same (W.wo H) ((W.plus p ob).wo H) := fun a u e => by
  refine Wd.wo_plus e fun q => ?_
  rw [q] at e
  have := W.wo_same H p u e
  rw [h] at this; cases this
theorem Wd.wo_upd {W : Wd} {p : Addr} {ob o : HO} {H : Hp} : Same ((W.plus p ob).wo H) ((W.plus p ob).wo (upd H p o)) := fun a u h => by
  obtain ⟨h1, hn⟩ := Wd.plus_wo h
  refine Wd.wo_plus ?_ hn
  unfold Wd.wo at h1 ⊢
  split at h1
  · cases h1
  · rename_i q
    rw [if_neg q, upd_ne hn]
    exact h1
theorem Wd.plus_j {W : Wd} {p : Addr} {H : Hp} {o : HO} (j : W.J H) (hm : W.M p = false) : (W.plus p o).J (upd H p o) := by
  refine ⟨W.loc H _ j fun a ha => ?_, upd_same⟩
  rw [upd_ne]
  intro q
  rw [q, hm] at ha
  cases ha
/-- out of the larger one: p was not there -/
theorem Wd.of_plus {W : Wd} {p : Addr} {ob : HO} {H H2 : Hp} (hp : H p = none) (j : W.J H2) (s : Same ((W.plus p ob).wo H) ((W.plus p ob).wo H2)) : W.Le H H2 :=
  ⟨fun a u h => Wd.plus_same a u (s a u (Wd.same_plus hp a u h)), j⟩
section
variable {W : Wd} {K : PySem.W.Frag} {σ : L2.St} {H H' : Hp} {te ta tb tc : TE} {P P1 P2 P3 : PyData → Prop} {t u : TT} {D : Ends} {tu tw tz : TS}
theorem m_forR {ta : TA} {j : Nat} {Pn : Int → Prop} (jH : W.J H) (h : EmA W K ta σ H fun ds => ∃ n, ds = [.int n] ∧ Pn n) (hn : ∀ n, Pn n → -100000 ≤ n ∧ n ≤ 100000) (Pv : Int → Nat → L2.St → Hp → Prop) (h0 : ∀ n H1, Pn n → W.Le H H1 → Pv n 0 σ H1)
    (hs : ∀ n (i : Nat) σ' H', Pn n → (i : Int) < n → Pv n i σ' H' → tu { D with nx := Pv n (i + 1), ct := Pv n (i + 1), bk := tz D } (σ'.set j (some (.int (i : Int)))) H') (hd : ∀ n σ' H', Pn n → Pv n n.toNat σ' H' → tz D σ' H') : tSeq (tFor (iRng1 ta) (gName j) tu) tz D σ H :=
  h H (.refl jH) _ fun vs ds H1 e hds p => by
    obtain ⟨n, rfl, pn⟩ := p
    obtain ⟨x, rfl⟩ := (show ∃ x, vs = [x] by
      cases hds with
      | cons h1 h2 => cases h2; exact ⟨_, rfl⟩)
    have hx : x = .int n := by
      cases hds with
      | cons h1 h2 => exact dpI h1
    subst hx
    refine ⟨n, rfl, by have := hn n pn; omega, by have := hn n pn; omega, for_range (D := { D with nx := tz D }) (lo := 0) (n := n.toNat) (Pv n) (h0 n H1 pn e) (fun i σ' H' hi p => ?_) fun σ' H' p => hd n σ' H' pn p⟩
    have e0 : (0 : Int) + (i : Int) = (i : Int) := Int.zero_add _
    show tu { D with nx := Pv n (i + 1), ct := Pv n (i + 1), bk := tz D } (σ'.set j (some (.int ((0 : Int) + (i : Int))))) H'
    rw [e0]
    exact hs n i σ' H' pn (by omega) p
/-- [e for j in range(n)], e may draw -/
theorem em_lcR {ta : TA} {j : Nat} {vs : List Nat} {Pn : Int → Prop} {Pe : PyData → Prop} (h : EmA W K ta σ H fun ds => ∃ n, ds = [.int n] ∧ Pn n) (hn : ∀ n, Pn n → -20000 ≤ n ∧ n ≤ 20000) (hw : ∀ x, wipe ((wipe σ vs).set j (some x)) vs = wipe σ vs)
    (he : ∀ n (i : Nat) p acc H1, Pn n → (i : Int) < n → W.M p = false → Same (W.wo H) ((W.plus p (.lst acc)).wo H1) → (W.plus p (.lst acc)).J H1 → Em (W.plus p (.lst acc)) K te ((wipe σ vs).set j (some (.int (i : Int)))) H1 Pe) :
    Em W K (tLc (iRng1 ta) (gName j) tYes te vs) σ H (IsLs fun ds => ∃ n, Pn n ∧ ds.length = n.toNat ∧ ∀ d, d ∈ ds → Pe d) := fun H0 e Q q => h H0 e _ fun us ds H1 e1 hds p => by
  obtain ⟨n, rfl, pn⟩ := p
  obtain ⟨x, rfl⟩ := (show ∃ x, us = [x] by
    cases hds with
    | cons h1 h2 => cases h2; exact ⟨_, rfl⟩)
  have hx : x = .int n := by
    cases hds with
    | cons h1 h2 => exact dpI h1
  subst hx
  have hb := hn n pn
  refine ⟨n, rfl, by omega, by omega, fun Dl hD => ?_⟩
  have hm := Wd.notM e1.j hD
  refine lc_range (lo := 0) (n := n.toNat) (fun i H' => Same ((W.plus Dl (.lst [])).wo H1) ((W.plus Dl (.lst [])).wo H') ∧ W.J H' ∧ ∃ acc es, H' Dl = some (.lst acc) ∧ DpAll K ((W.plus Dl (.lst [])).wo H') acc es ∧ es.length = i ∧ ∀ d, d ∈ es → Pe d)
    ⟨Wd.wo_upd, (Wd.plus_j (o := .lst []) e1.j hm).1, [], [], upd_same, .nil, rfl, fun d hd => by cases hd⟩ (fun i H' hi pp => ⟨hw _, ?_⟩) fun H' pp => ?_
  · obtain ⟨sm, jj, acc, es, h1, h2, h3, h4⟩ := pp
    dsimp only [tYes]
    rw [if_pos rfl]
    have e0 : (0 : Int) + (i : Int) = (i : Int) := Int.zero_add _
    rw [e0]
    have sm0 : Same (W.wo H) ((W.plus Dl (.lst acc)).wo H') := (e.trans e1).s.trans ((Wd.same_plus hD).trans sm)
    refine he n i Dl acc H' pn (by omega) hm sm0 ⟨jj, h1⟩ H' (.refl ⟨jj, h1⟩) _ fun v d H2 e2 hd pd => ?_
    refine ⟨acc, e2.j.2, sz_lt (by rw [dpAll_len h2, h3]; omega), sm.trans (e2.s.trans Wd.wo_upd), (Wd.plus_j (o := .lst (acc ++ [v])) e2.j.1 hm).1, acc ++ [v], es ++ [d], upd_same, ?_, by rw [List.length_append, h3]; rfl, fun x hx => ?_⟩
    · exact dpAll_mono Wd.wo_upd (dpAll_append (dpAll_mono e2.s h2) (.cons hd .nil))
    · rcases List.mem_append.mp hx with hx | hx
      · exact h4 x hx
      · rw [List.mem_singleton.mp hx]; exact pd
  · obtain ⟨sm, jj, acc, es, h1, h2, h3, h4⟩ := pp
    exact q (.ref Dl) (.list es) H' (e1.trans (Wd.of_plus hD jj sm)) (.lst (sq_of (Wd.wo_at hm h1)) (dpAll_mono Wd.plus_same h2)) ⟨es, rfl, n, pn, h3, h4⟩
/-- len, tuple(..), slices, + of data -/
theorem em_lenT {P1 : List PyData → Prop} {P : Int → Prop} (h : Em W K te σ H (IsTp P1)) (hp : ∀ ds, P1 ds → P ds.length) : Em W K (tCB (rLenS K) (tCons te tNil)) σ H (IsI P) := fun H1 e Q q => h H1 e _ fun v d H2 e2 hd p => by
  obtain ⟨ds, rfl, p1⟩ := p
  obtain ⟨a, xs, rfl, hs, hds⟩ := dpT hd
  exact ⟨a, xs, rfl, .inr (sqT_wo hs), q _ _ H2 e2 (.int _) ⟨_, rfl, by rw [dpAll_len hds]; exact hp ds p1⟩⟩
theorem em_lenL {P1 : List PyData → Prop} {P : Int → Prop} (h : Em W K te σ H (IsLs P1)) (hp : ∀ ds, P1 ds → P ds.length) : Em W K (tCB (rLenS K) (tCons te tNil)) σ H (IsI P) := fun H1 e Q q => h H1 e _ fun v d H2 e2 hd p => by
  obtain ⟨ds, rfl, p1⟩ := p
  obtain ⟨a, xs, rfl, hs, hds⟩ := dpL hd
  exact ⟨a, xs, rfl, .inl (sqL_wo hs), q _ _ H2 e2 (.int _) ⟨_, rfl, by rw [dpAll_len hds]; exact hp ds p1⟩⟩
def rTupO (K : PySem.W.Frag) : List V → Hp → VK → Prop := fun xs H Q => ∃ p ys, xs = [.ref p] ∧ ((SqL K H p ys ∧ ∀ l, H l = none → Q (.ref l) (upd H l (.tup ys))) ∨ (SqT K H p ys ∧ Q (.ref p) H))
/-- tuple(list) -/
theorem em_tupL {P1 : List PyData → Prop} (h : Em W K te σ H (IsLs P1)) (hp : ∀ ds, P1 ds → P (.tuple ds)) : Em W K (tCB (rTupO K) (tCons te tNil)) σ H P := fun H1 e Q q => h H1 e _ fun v d H2 e2 hd p => by
  obtain ⟨ds, rfl, p1⟩ := p
  obtain ⟨a, xs, rfl, hs, hds⟩ := dpL hd
  refine ⟨a, xs, rfl, .inl ⟨sqL_wo hs, fun l hl => ?_⟩⟩
  exact q (.ref l) (.tuple ds) (upd H2 l (.tup xs)) (e2.trans (.new e2.j hl)) (.tup (st_of (Wd.wo_at (Wd.notM e2.j hl) upd_same)) ((Wd.Le.new e2.j hl).dpAll hds)) (hp ds p1)
/-- list(list), list(tuple) -/
theorem em_lstL {P1 : List PyData → Prop} (h : Em W K te σ H (IsLs P1)) (hp : ∀ ds, P1 ds → P (.list ds)) : Em W K (tCB (rListS K) (tCons te tNil)) σ H P := fun H1 e Q q => h H1 e _ fun v d H2 e2 hd p => by
  obtain ⟨ds, rfl, p1⟩ := p
  obtain ⟨a, xs, rfl, hs, hds⟩ := dpL hd
  refine ⟨a, xs, rfl, .inl (sqL_wo hs), fun l hl => ?_⟩
  exact q (.ref l) (.list ds) (upd H2 l (.lst xs)) (e2.trans (.new e2.j hl)) (.lst (sq_of (Wd.wo_at (Wd.notM e2.j hl) upd_same)) ((Wd.Le.new e2.j hl).dpAll hds)) (hp ds p1)
theorem em_lstT {P1 : List PyData → Prop} (h : Em W K te σ H (IsTp P1)) (hp : ∀ ds, P1 ds → P (.list ds)) : Em W K (tCB (rListS K) (tCons te tNil)) σ H P := fun H1 e Q q => h H1 e _ fun v d H2 e2 hd p => by
  obtain ⟨ds, rfl, p1⟩ := p
  obtain ⟨a, xs, rfl, hs, hds⟩ := dpT hd
  refine ⟨a, xs, rfl, .inr (sqT_wo hs), fun l hl => ?_⟩
  exact q (.ref l) (.list ds) (upd H2 l (.lst xs)) (e2.trans (.new e2.j hl)) (.lst (sq_of (Wd.wo_at (Wd.notM e2.j hl) upd_same)) ((Wd.Le.new e2.j hl).dpAll hds)) (hp ds p1)
/-- the data of a slice -/
def cutD (ds : List PyData) (lo hi : Option Int) : List PyData := (ds.drop (HT.sIx ds.length 0 lo)).take (HT.sIx ds.length ds.length hi - HT.sIx ds.length 0 lo)
theorem dp_cut {H : Hp} {xs : List V} {ds : List PyData} (h : DpAll K H xs ds) (lo hi : Option Int) : DpAll K H (cutV xs lo hi) (cutD ds lo hi) := by
  unfold cutV cutD
  rw [dpAll_len h]
  exact dpAll_take _ (dpAll_drop _ h)
def EmO (W : Wd) (to : TO) (σ : L2.St) (H : Hp) (P : Option Int → Prop) : Prop := ∀ H1, W.Le H H1 → ∀ Q : Option Int → Hp → Prop, (∀ o H2, W.Le H1 H2 → P o → Q o H2) → to σ H1 Q
theorem emo_none {P : Option Int → Prop} (p : P none) : EmO W tNoPart σ H P := fun H1 e _ q => q none H1 (.refl e.j) p
theorem emo_some {P1 : Int → Prop} {P : Option Int → Prop} (h : Em W K te σ H (IsI P1)) (hp : ∀ i, P1 i → P (some i)) : EmO W (tPart te) σ H P := fun H1 e _ q => h H1 e _ fun v d H2 e2 hd p => by
  obtain ⟨i, rfl, pi⟩ := p
  cases dpI hd
  exact ⟨i, rfl, q (some i) H2 e2 (hp i pi)⟩
theorem em_slL {tl th : TO} {P1 : List PyData → Prop} {Pl Ph : Option Int → Prop} (h : Em W K te σ H (IsLs P1)) (hl : EmO W tl σ H Pl) (hh : EmO W th σ H Ph) (hp : ∀ ds lo hi, P1 ds → Pl lo → Ph hi → P (.list (cutD ds lo hi))) : Em W K (tSl (rSlL K) te tl th) σ H P := fun H1 e Q q => h H1 e _ fun v d H2 e2 hd p =>
  hl H2 (e.trans e2) _ fun lo H3 e3 p3 => hh H3 (e.trans (e2.trans e3)) _ fun hi H4 e4 p4 => by
    obtain ⟨ds, rfl, p1⟩ := p
    obtain ⟨a, xs, rfl, hs, hds⟩ := dpL ((e3.trans e4).dp hd)
    refine ⟨a, xs, rfl, sqL_wo hs, fun l hl => ?_⟩
    exact q (.ref l) _ (upd H4 l (.lst (cutV xs lo hi))) (e2.trans (e3.trans (e4.trans (.new e4.j hl)))) (.lst (sq_of (Wd.wo_at (Wd.notM e4.j hl) upd_same)) ((Wd.Le.new e4.j hl).dpAll (dp_cut hds lo hi))) (hp ds lo hi p1 p3 p4)
theorem em_slT {tl th : TO} {P1 : List PyData → Prop} {Pl Ph : Option Int → Prop} (h : Em W K te σ H (IsTp P1)) (hl : EmO W tl σ H Pl) (hh : EmO W th σ H Ph) (hp : ∀ ds lo hi, P1 ds → Pl lo → Ph hi → P (.tuple (cutD ds lo hi))) : Em W K (tSl (rSlA K) te tl th) σ H P := fun H1 e Q q => h H1 e _ fun v d H2 e2 hd p =>
  hl H2 (e.trans e2) _ fun lo H3 e3 p3 => hh H3 (e.trans (e2.trans e3)) _ fun hi H4 e4 p4 => by
    obtain ⟨ds, rfl, p1⟩ := p
    obtain ⟨a, xs, rfl, hs, hds⟩ := dpT ((e3.trans e4).dp hd)
    refine ⟨a, xs, rfl, sqT_wo hs, fun hw => ?_, fun _ l hl => ?_⟩
    · have e0 : cutD ds lo hi = ds := by
        unfold cutD
        rw [← dpAll_len hds, hw.1, hw.2, Nat.sub_zero, List.drop_zero, dpAll_len hds, List.take_length]
      refine q (.ref a) (.tuple ds) H4 (e2.trans (e3.trans e4)) (.tup hs hds) ?_
      have := hp ds lo hi p1 p3 p4
      rw [e0] at this
      exact this
    · exact q (.ref l) _ (upd H4 l (.tup (cutV xs lo hi))) (e2.trans (e3.trans (e4.trans (.new e4.j hl)))) (.tup (st_of (Wd.wo_at (Wd.notM e4.j hl) upd_same)) ((Wd.Le.new e4.j hl).dpAll (dp_cut hds lo hi))) (hp ds lo hi p1 p3 p4)
/-- t + u -/
theorem em_catT {P1 P2 : List PyData → Prop} (ha : Em W K ta σ H (IsTp P1)) (hb : Em W K tb σ H (IsTp P2)) (hp : ∀ ds es, P1 ds → P2 es → ds.length + es.length ≤ 20000 ∧ P (.tuple (ds ++ es))) : Em W K (tOp (rCatA K) ta tb) σ H P :=
  em_op ha hb fun x y dx dy H1 e hx px hy py Q q => by
    obtain ⟨ds, rfl, p1⟩ := px
    obtain ⟨es, rfl, p2⟩ := py
    obtain ⟨a, xs, rfl, hs, hds⟩ := dpT hx
    obtain ⟨b, ys, rfl, hs2, hds2⟩ := dpT hy
    obtain ⟨hl, hP⟩ := hp ds es p1 p2
    refine ⟨a, b, xs, ys, rfl, rfl, sqT_wo hs, sqT_wo hs2, sz_of (by rw [dpAll_len hds, dpAll_len hds2]; omega), fun h0 => ?_, fun _ h0 => ?_, fun _ _ p hp => ?_⟩
    · subst h0
      cases hds
      exact q _ _ H1 (.refl e.j) (.tup hs2 hds2) hP
    · subst h0
      cases hds2
      rw [List.append_nil] at hP
      exact q _ _ H1 (.refl e.j) (.tup hs hds) hP
    · exact q _ _ _ (.new e.j hp) (.tup (st_of (Wd.wo_at (Wd.notM e.j hp) upd_same)) ((Wd.Le.new e.j hp).dpAll (dpAll_append hds hds2))) hP
end
end Nt
namespace Nt
open PySem PySem.Spec PyProof.Rows L2 Evl
theorem rc_max {H : Hp} {i j : Int} : RC (fun xs H Q => ∃ i j, xs = [V.int i, V.int j] ∧ Q (.int (if j > i then j else i)) H) [.int i, .int j] H (.int (if j > i then j else i)) := fun H1 _ _ q => ⟨i, j, rfl, q H1 (Ex.refl H1)⟩
theorem rc_min {H : Hp} {i j : Int} : RC (fun xs H Q => ∃ i j, xs = [V.int i, V.int j] ∧ Q (.int (if j < i then j else i)) H) [.int i, .int j] H (.int (if j < i then j else i)) := fun H1 _ _ q => ⟨i, j, rfl, q H1 (Ex.refl H1)⟩
/-- a pure def's call on data -/
theorem em_pure1 {W : Wd} {K : PySem.W.Frag} {σ : L2.St} {H : Hp} {te : TE} {E : XK} {sp : Sp} {P1 : PyData → Prop} {P : PyData → Prop} (h : Em W K te σ H P1) (hs : ∀ v d H1, W.Le H H1 → Dp K (W.wo H1) v d → P1 d → ∃ z dz, SpV sp [v] H1 z ∧ (∀ H2, Dp K H2 z dz) ∧ P dz) : Em W K (tCall sp [] E (tCons te tNil)) σ H P := fun H1 e Q q =>
  h H1 e _ fun v d H2 e2 hd p => by
    obtain ⟨z, dz, h1, h2, h3⟩ := hs v d H2 (e.trans e2) hd p
    exact h1 H2 (Ex.refl _) _ (fun H3 e3 => q z dz H3 (e2.trans (.of_same e2.j e3)) (h2 _) h3) E
theorem em_isi {W : Wd} {K : PySem.W.Frag} {σ : L2.St} {H : Hp} {te : TE} {n : String} {P1 : PyData → Prop} {P : Bool → Prop} (h : Em W K te σ H P1) (hp : ∀ d, P1 d → ∃ b, kitB (tyN d) n = some b ∧ P b) : Em W K (tCB (rIsi K) (tCons te (tCons (tC (.ty n)) tNil))) σ H (IsB P) := fun H1 e Q q => h H1 e _ fun v d H2 e2 hd p => by
  obtain ⟨b, hb, pb⟩ := hp d p
  exact isi_d (Wd.dp hd) hb H2 (Ex.refl _) Q fun H3 e3 => q _ _ H3 (e2.trans (.of_same e2.j e3)) (.bl b) ⟨b, rfl, pb⟩
theorem cut_pre (ds : List PyData) (n : Nat) : cutD ds none (some (n : Int)) = ds.take n := by
  unfold cutD
  rw [HT.sIx_nat, HT.sIx_none, List.drop_zero, Nat.sub_zero]
  by_cases h : n ≤ ds.length
  · rw [Nat.min_eq_left h]
  · rw [Nat.min_eq_right (by omega), List.take_length, List.take_of_length_le (by omega)]
theorem cut_suf (ds : List PyData) (n : Nat) : cutD ds (some (n : Int)) none = ds.drop n := by
  unfold cutD
  rw [HT.sIx_nat, HT.sIx_none]
  by_cases h : n ≤ ds.length
  · rw [Nat.min_eq_left h, List.take_of_length_le]
    rw [List.length_drop]
    exact Nat.le_refl _
  · rw [Nat.min_eq_right (by omega), Nat.sub_self, List.take_zero, List.drop_of_length_le (by omega)]
theorem em_is {W : Wd} {K : PySem.W.Frag} {σ : L2.St} {H : Hp} {i : Nat} {v : V} {d : PyData} (h : σ[i]? = some (some v)) (hd : Dp K (W.wo H) v d) : Em W K (tVar i) σ H (fun x => x = d) := em_var h hd rfl
theorem rc_abs {H : Hp} {i : Int} : RC (fun xs H Q => ∃ i, xs = [V.int i] ∧ Q (.int (if i < 0 then -i else i)) H) [.int i] H (.int (if i < 0 then -i else i)) := fun H1 _ _ q => ⟨i, rfl, q H1 (Ex.refl H1)⟩
theorem rc_intB {H : Hp} {b : Bool} : RC (fun xs H Q => (∃ i, xs = [V.int i] ∧ Q (.int i) H) ∨ ∃ k, xs = [V.bl k] ∧ Q (.int (if k then 1 else 0)) H) [.bl b] H (.int (if b then 1 else 0)) := fun H1 _ _ q => .inr ⟨b, rfl, q H1 (Ex.refl H1)⟩
theorem ok20 {n : Nat} (h : Nat.ble n 20000 = true := by rfl) : n ≤ 20000 := Nat.le_of_ble_eq_true h
theorem at_two {d0 d1 : PyData} {P : PyData → Prop} {i : Int} (h : 0 ≤ i ∧ i < 2) (h0 : P d0) (h1 : P d1) : ∃ d, atI [d0, d1] i = some d ∧ P d := by
  have h2 : i = 0 ∨ i = 1 := by omega
  rcases h2 with rfl | rfl
  · exact ⟨d0, atI_nat (j := 0) rfl, h0⟩
  · exact ⟨d1, atI_nat (j := 1) rfl, h1⟩
theorem at_three {d0 d1 d2 : PyData} {P : PyData → Prop} {i : Int} (h : 0 ≤ i ∧ i < 3) (h0 : P d0) (h1 : P d1) (h2 : P d2) : ∃ d, atI [d0, d1, d2] i = some d ∧ P d := by
  have h3 : i = 0 ∨ i = 1 ∨ i = 2 := by omega
  rcases h3 with rfl | rfl | rfl
  · exact ⟨d0, atI_nat (j := 0) rfl, h0⟩
  · exact ⟨d1, atI_nat (j := 1) rfl, h1⟩
  · exact ⟨d2, atI_nat (j := 2) rfl, h2⟩
theorem m_asg1 {W : Wd} {K : PySem.W.Frag} {σ : L2.St} {H : Hp} {te : TE} {P : PyData → Prop} {D : Ends} {tz : TS} {i : Nat} (j : W.J H) (h : Em W K te σ H P) (k : ∀ v d H1 p, W.Le H H1 → Dp K (W.wo H1) v d → P d → H1 p = none → tz D (σ.set i (some (.ref p))) (upd H1 p (.lst [v]))) : tSeq (tAsg (tLst (tCons te tNil)) (gName i)) tz D σ H :=
  h H (.refl j) _ fun v d H1 e hd pd => ⟨sz_of (by show 1 ≤ 100000; decide), fun p hp => k v d H1 p e hd pd hp⟩
end Nt

namespace Nt
open PySem PySem.Spec PyProof.Rows L2
/-! ### own exceptions made without arguments; isinstance of a caught one by several classes -/
section
variable {X : Cx} {C : Addr} {bmB : List Value} {B newId initId : String}
/-- X() -/
theorem pmk_own0 {x : Str} {p pos : Pos} (F : ExcBaseFacts B newId initId bmB) (q : PySem.W.excIn X.K C bmB newId = true) (gC : X.mg x = some (.ref C)) (kC : PySem.W.keepIn X.K (.ref C) = true) (r : Raises X (.ref C)) (hg : Gl X x)
    (hdb : (x == ("__debug__" : Str)) = false := by decide) : PMk X (.Call (.Name x p) [] [] pos) (fun _ H Q => Q (.ref C) none H) := by
  intro pins s σ H Q I h
  refine wpAny_Call_Name_kw (ld_glob I hg gC ?_ hdb)
  refine PySem.W.callWith_K0 I.kIn kC ?_
  show wpAny _ _ (call (.ref C) []) _ _ _
  obtain ⟨bm, N, nm, qn, bs, hdct, sn, sub, ab, col, dd, k0, k1, k2, k3, k5, mN, hC, hN, hni, T⟩ := exc_obj I.kIn q
  refine wpAny_call_exc_subT F T hC hN hni (fun h' e hm => ?_) (by show 0 ≤ sizeLine; exact Nat.zero_le _)
  exact mk_of I hm r h (I.hok.gone hm.new)
end
/-- isinstance(e, (C, ..)), e the exception that the suite holds -/
def rIsET (K : PySem.W.Frag) (D a : Addr) : List V → Hp → VK → Prop := fun xs H Q => ∃ (tp : Addr) (cs : List V) (us : List Value) (b : Bool), xs = [.ref a, .ref tp] ∧ H tp = some (.tup cs) ∧ Paired ClsV cs us ∧ PySem.W.kitAny K (.ref D) us = some b ∧ Q (.bl b) H
theorem call_isET {X : Cx} {a D : Addr} {oe : Obj} {pn : List (Addr × Obj)} (C : ExcC X.K D) (hz : Zc (.ref D) none oe) (hf : ∃ vs, oe.data = .fields vs) : CallR (X.suite a ((a, oe) :: pn)) (.builtin "isinstance") (rIsET X.K D a) := by
  intro pins s σ H xs us Q I r h
  obtain ⟨tp, cs, ws, b, rfl, hT, k, e, q⟩ := h
  obtain ⟨u1, u2, rfl, r1, r2⟩ := vals2 r
  cases (show u2 = Value.ref tp from r2)
  cases (show u1 = Value.ref a from r1)
  obtain ⟨hget, _⟩ := I.pin (a, oe) (List.mem_append.mpr (.inl List.mem_cons_self))
  obtain ⟨vs, hv⟩ := hf
  have J : PySem.W.InstAt s.heap a oe D none := by
    obtain ⟨oc, od, oda, osl⟩ := oe
    obtain ⟨h1, h2⟩ := hz
    dsimp only at h1 h2 hv
    subst h1 h2 hv
    exact ⟨hget, rfl, rfl, trivial⟩
  obtain ⟨_, its, rv, o, h1, h2, n, h3⟩ := (show ObjOk X.prog X.w H s.heap tp (.tup cs) from I.hok tp _ hT)
  have e3 := ClsV.all k rv
  subst e3
  obtain ⟨oc, od, dt, sl⟩ := o
  simp only at h2 h3
  subst h2 h3
  exact PySem.W.kia_tup (PySem.W.handS_kitx_exc C.hg C.hk C.hs C.hd C.ha C.hn C.ht C.hm) I.kIn J h1 e (fun z => nomatch z) fun tk => ⟨.bl b, H, I.kept (t' := tk) fun _ _ z => z, rfl, q⟩
/-! ### what the top tells of an own exception class -/
def ve : List Value := [.type "ValueError", .type "Exception", .type "BaseException", .type "object"]
structure ExcD (K : PySem.W.Frag) (C : Addr) (bm : List Value) (nw : String) : Prop where
  q : PySem.W.excIn K C bm nw = true
  k : PySem.W.keepIn K (.ref C) = true
  s : PySem.W.subIn K (.ref C) (.type "BaseException") = some true
  t : PySem.W.typeIn K (.ref C) = some (.type "type")
  c : ExcC K C
def kExc (K : PySem.W.Frag) (C : Addr) (bm : List Value) (nw : String) : Bool :=
  PySem.W.excIn K C bm nw && (PySem.W.keepIn K (.ref C) && (decide (PySem.W.subIn K (.ref C) (.type "BaseException") = some true) && (decide (PySem.W.typeIn K (.ref C) = some (.type "type"))
    && (He.eqO (PySem.W.findIn K (.ref C) "__getattribute__") (some (some (.builtin "BaseException.__getattribute__"))) && (He.eqO (PySem.W.findIn K (.ref C) "__getattr__") (some none) && (PySem.W.hasDictIn K C
    && (He.eqO (PySem.W.findIn K (.ref C) "__class__") (some (some (.builtin "object.__class__"))) && (He.eqO (PySem.W.specialIn K (.builtin "object.__class__") "__get__") (some (some (.builtin "getset_descriptor.__get__")))
    && (decide (PySem.W.takesIn K (.builtin "object.__class__") = some true) && decide (PySem.W.mroIn K C (.type "object") = some true))))))))))
theorem kExc_ok {K : PySem.W.Frag} {C : Addr} {bm : List Value} {nw : String} (h : kExc K C bm nw = true) : ExcD K C bm nw := by
  obtain ⟨h1, h⟩ := He.ba h
  obtain ⟨h2, h⟩ := He.ba h
  obtain ⟨h3, h⟩ := He.ba h
  obtain ⟨h4, h⟩ := He.ba h
  obtain ⟨h5, h⟩ := He.ba h
  obtain ⟨h6, h⟩ := He.ba h
  obtain ⟨h7, h⟩ := He.ba h
  obtain ⟨h8, h⟩ := He.ba h
  obtain ⟨h9, h⟩ := He.ba h
  obtain ⟨h10, h11⟩ := He.ba h
  have h3 := of_decide_eq_true h3
  exact ⟨h1, h2, h3, of_decide_eq_true h4, ⟨He.eqO_ok h5, He.eqO_ok h6, h3, h7, He.eqO_ok h8, He.eqO_ok h9, of_decide_eq_true h10, of_decide_eq_true h11⟩⟩
/-- of two classes: is the first under the second -/
structure Und (K : PySem.W.Frag) (C D : Addr) (b : Bool) : Prop where
  m : PySem.W.exmOne K (.ref C) (.ref D) = some b
  i : PySem.W.kitOne K (.ref C) (.ref D) = some b
def kUnd (K : PySem.W.Frag) (C D : Addr) (b : Bool) : Bool := decide (PySem.W.exmOne K (.ref C) (.ref D) = some b) && decide (PySem.W.kitOne K (.ref C) (.ref D) = some b)
theorem kUnd_ok {K : PySem.W.Frag} {C D : Addr} {b : Bool} (h : kUnd K C D b = true) : Und K C D b := ⟨of_decide_eq_true (He.ba h).1, of_decide_eq_true (He.ba h).2⟩
/-! ### a def with a default that is taken -/
structure DefV (P : Program) (w : World) (K : PySem.W.Frag) (mg : Str → Option Value) (base : Heap) (CX : CXT) (k : Nat) (x : Str) (ps : List Str) (dvs : List V) (sp : Sp) : Prop where
  ex : ∃ (f : Addr) (fd : FuncData) (ds : List Value), mg x = some (.ref f) ∧ PySem.W.keepIn K (.ref f) = true ∧ Vals dvs ds ∧ Binds K fd ps ds ∧ FnOk P w K mg base CX k f fd ps sp
/-- a def called with keywords -/
structure DefN (P : Program) (w : World) (K : PySem.W.Frag) (mg : Str → Option Value) (base : Heap) (CX : CXT) (k : Nat) (x : Str) (ps : List Str) (n : Nat) (ks : List Str) (gV : List V → List V → List V) (sp : Sp) : Prop where
  ex : ∃ (f : Addr) (fd : FuncData) (g : List Value → List Value → List Value), mg x = some (.ref f) ∧ PySem.W.keepIn K (.ref f) = true ∧ KBn K fd ps n ks g gV ∧ FnOk P w K mg base CX k f fd ps sp
section
variable {X : Cx} {CX : CXT} {k n : Nat} {ps ks : List Str} {sp : Sp} {E : XK} {x : Str} {p pos : Pos} {e : Expr} {es : List Expr} {t tk : TA} {dvs : List V} {kws : List Keyword} {gV : List V → List V → List V}
theorem pe_callV (D : DefV X.prog X.w X.K X.mg X.base CX k x ps dvs sp) (hr : Room k X.A) (hg : Gl X x) (hx : Passes CX X E) (ha : PA X (e :: es) t) (hdb : (x == ("__debug__" : Str)) = false := by decide)
    (he : starEach (e :: es) X.env = (false, eval e X.env) :: starEach es X.env := by rfl) (hpl : (backTo pos (starEach es X.env)).any (·.1) = false := by rfl) :
    PE X (.Call (.Name x p) (e :: es) [] pos) (tCall sp dvs E t) := by
  obtain ⟨f, fd, ds, h1, h2, h3, h4, h5⟩ := D.ex
  exact pe_call h5 hr hg h1 h2 h4 h3 hx ha hdb he hpl
theorem pe_callNN (D : DefN X.prog X.w X.K X.mg X.base CX k x ps n ks gV sp) (hr : Room k X.A) (hg : Gl X x) (hx : Passes CX X E) (ha : PA X (e :: es) t) (hkw : PK X kws tk) (hall : (backToKw pos (keywordEach kws X.env)).all (·.1.isSome) = true := by rfl) (hks : (backToKw pos (keywordEach kws X.env)).filterMap (·.1) = ks := by rfl)
    (hdb : (x == ("__debug__" : Str)) = false := by decide) (he : starEach (e :: es) X.env = (false, eval e X.env) :: starEach es X.env := by rfl)
    (hpl : ((backTo pos (starEach (e :: es) X.env)).any (·.1) || (backToKw pos (keywordEach kws X.env)).any (·.1.isNone)) = false := by rfl) :
    PE X (.Call (.Name x p) (e :: es) kws pos) (tCallN n ks.length sp gV E t tk) := by
  obtain ⟨f, fd, g, h1, h2, h3, h4⟩ := D.ex
  exact pe_callN h4 hr hg h1 h2 h3 hx ha hkw hall hks hdb he hpl
end
section
variable {X : Cx} {CX : CXT} {k n : Nat} {ps ks : List Str} {sp : Sp} {E : L2.St → XK} {x : Str} {p pos : Pos} {e : Expr} {es : List Expr} {t tk : TA}
theorem pe_callDX (D : Def X.prog X.w X.K X.mg X.base CX k x ps sp) (hr : Room k X.A) (hg : Gl X x) (hx : ∀ σ, PassesAt CX X σ (E σ)) (ha : PA X (e :: es) t) (hdb : (x == ("__debug__" : Str)) = false := by decide)
    (he : starEach (e :: es) X.env = (false, eval e X.env) :: starEach es X.env := by rfl) (hpl : (backTo pos (starEach es X.env)).any (·.1) = false := by rfl) :
    PE X (.Call (.Name x p) (e :: es) [] pos) (tCallS sp E t) := by
  obtain ⟨f, fd, h1, h2, h3, h4⟩ := D.ex
  exact pe_callS h4 hr hg h1 h2 h3 hx ha hdb he hpl
theorem pe_callVX (D : DefV X.prog X.w X.K X.mg X.base CX k x ps [] sp) (hr : Room k X.A) (hg : Gl X x) (hx : ∀ σ, PassesAt CX X σ (E σ)) (ha : PA X (e :: es) t) (hdb : (x == ("__debug__" : Str)) = false := by decide)
    (he : starEach (e :: es) X.env = (false, eval e X.env) :: starEach es X.env := by rfl) (hpl : (backTo pos (starEach es X.env)).any (·.1) = false := by rfl) :
    PE X (.Call (.Name x p) (e :: es) [] pos) (tCallS sp E t) := by
  obtain ⟨f, fd, ds, h1, h2, h3, h4, h5⟩ := D.ex
  cases h3
  exact pe_callS h5 hr hg h1 h2 h4 hx ha hdb he hpl
end
/-- an except suite, once the class is known -/
theorem pss_cls {Y : Cx} {body : List Stmt} {oe : Obj} {cls : Value} {d : Option Addr} {D : Addr} {t : TS} (hz : Zc cls d oe) (h : Zc (.ref D) none oe → PSs Y body t) : PSs Y body (fun D' σ H => cls = .ref D ∧ d = none ∧ t D' σ H) :=
  ⟨fun pins s σ H D' I hh => by
    obtain ⟨rfl, rfl, hh⟩ := hh
    exact (h hz).run pins s σ H D' I hh⟩
section
variable {P : Program} {w : World} {K : PySem.W.Frag} {mg : Str → Option Value} {base : Heap} {x qual : Str} {params : Arguments} {body : List Stmt} {scope : Scope} {kws : List (Str × V)}
/-- a def with keyword-only defaults, all of them taken -/
theorem mkDefV {CX : CXT} {N ps : List Str} {k n : Nat} {sp : Sp} {f : Addr} (F : ∃ fd, FunD K x qual params body scope [] kws f fd) (g : mg x = some (.ref f)) (S : FnScope N ps scope) (hk : kws ≠ []) (hn : n + kws.length = ps.length)
    (hb : ∀ (D : Addr) (doc pm : Value) (an : Option Addr) (cdv ct : Value) (us ks : List Value), us.length = n → ks.length = kws.length →
      KwChain D ((kws.map (·.1)).zip ks) (bindArgs (PySem.W.fnOf x qual params body scope .none (.ref D) doc pm an cdv ct) ⟨us, []⟩) (ps.zip (us ++ ks)))
    (len : ∀ vs H Q E, sp vs H Q E → vs.length = ps.length)
    (hbody : ∀ (cdv : Value) (A : Around) (outer : List Env) (s : Shared) (H : Hp) (vs : List V) (Q : VK) (E : XK), Room k (A.deeper (envOfC qual scope s.heap.objs.size f cdv)) → sp vs H Q E →
      ∃ t, PSs (cxOf CX P w K mg base N qual scope f cdv A outer s H E) body t ∧ t { nx := fun _ H' => Q .non H', rt := Q } (start N vs) H) : DefV P w K mg base CX (k + 1) x ps (kws.map (·.2)) sp := by
  obtain ⟨fd, F⟩ := F
  obtain ⟨ds, h1, h2⟩ := F.binds0 n hk hn hb
  exact ⟨f, fd, ds, g, F.kp, h1, h2, F.ok S len hbody⟩
end
/-! ### == of data without dicts -/
def rEqP (K : PySem.W.Frag) : R2 := fun x y H Q => ∃ d e, Dp K H x d ∧ Dp K H y e ∧ d.plain = true ∧ e.plain = true ∧ d.depth ≤ 64 ∧ Q (.bl (PyData.eqv d e)) H
def rNeP (K : PySem.W.Frag) : R2 := fun x y H Q => ∃ d e, Dp K H x d ∧ Dp K H y e ∧ d.plain = true ∧ e.plain = true ∧ d.depth ≤ 64 ∧ Q (.bl (!PyData.eqv d e)) H
section
variable {X : Cx}
theorem op_eqP (hu : X.A.units + 64 < cLine) : OpR X (compareOp .Eq) (rEqP X.K) := by
  intro pins s σ H x y v u Q I rx ry h
  obtain ⟨d, e, hd, he, sd, se, hk, q⟩ := h
  obtain ⟨as, r1⟩ := Dp.reads I d x v hd rx
  obtain ⟨bs, r2⟩ := Dp.reads I e y u he ry
  exact PySem.SeqAt.eq_plain r1 r2 sd se (by have : min d.depth e.depth ≤ d.depth := Nat.min_le_left _ _; omega) ⟨.bl _, H, I, rfl, q⟩
theorem op_neP (hu : X.A.units + 64 < cLine) : OpR X (compareOp .NotEq) (rNeP X.K) := by
  intro pins s σ H x y v u Q I rx ry h
  obtain ⟨d, e, hd, he, sd, se, hk, q⟩ := h
  obtain ⟨as, r1⟩ := Dp.reads I d x v hd rx
  obtain ⟨bs, r2⟩ := Dp.reads I e y u he ry
  exact PySem.SeqAt.ne_plain r1 r2 sd se (by have : min d.depth e.depth ≤ d.depth := Nat.min_le_left _ _; omega) ⟨.bl _, H, I, rfl, q⟩
end
end Nt

namespace Nt
open PySem PySem.Spec PyProof.Rows L2
def topS (i : Nat) : Stmt := PySem.Challenge.pw_neithertells_k07_assembled.main.body.getD i (.Pass ⟨0, 0, 0, 0⟩)
abbrev s_is_integer : Stmt := topS 18
abbrev N_is_integer : List Str := (["thing"] : List Str)
theorem sc_is_integer : FnScope N_is_integer ["thing"] (defScope s_is_integer) := ⟨rfl, rfl, rfl, by decide +kernel, rfl, by decide +kernel, by decide +kernel⟩
abbrev s_is_one_of : Stmt := topS 19
abbrev N_is_one_of : List Str := (["thing", "names"] : List Str)
theorem sc_is_one_of : FnScope N_is_one_of ["thing", "names"] (defScope s_is_one_of) := ⟨rfl, rfl, rfl, by decide +kernel, rfl, by decide +kernel, by decide +kernel⟩
abbrev s_is_value : Stmt := topS 20
abbrev N_is_value : List Str := (["thing"] : List Str)
theorem sc_is_value : FnScope N_is_value ["thing"] (defScope s_is_value) := ⟨rfl, rfl, rfl, by decide +kernel, rfl, by decide +kernel, by decide +kernel⟩
abbrev s_is_term : Stmt := topS 21
abbrev N_is_term : List Str := (["thing"] : List Str)
theorem sc_is_term : FnScope N_is_term ["thing"] (defScope s_is_term) := ⟨rfl, rfl, rfl, by decide +kernel, rfl, by decide +kernel, by decide +kernel⟩
abbrev s_is_condition : Stmt := topS 22
abbrev N_is_condition : List Str := (["thing", "variable", "sign", "term"] : List Str)
theorem sc_is_condition : FnScope N_is_condition ["thing"] (defScope s_is_condition) := ⟨rfl, rfl, rfl, by decide +kernel, rfl, by decide +kernel, by decide +kernel⟩
abbrev s_is_set : Stmt := topS 23
abbrev N_is_set : List Str := (["parts"] : List Str)
theorem sc_is_set : FnScope N_is_set ["parts"] (defScope s_is_set) := ⟨rfl, rfl, rfl, by decide +kernel, rfl, by decide +kernel, by decide +kernel⟩
abbrev s_is_add : Stmt := topS 24
abbrev N_is_add : List Str := (["parts"] : List Str)
theorem sc_is_add : FnScope N_is_add ["parts"] (defScope s_is_add) := ⟨rfl, rfl, rfl, by decide +kernel, rfl, by decide +kernel, by decide +kernel⟩
abbrev s_is_wait : Stmt := topS 25
abbrev N_is_wait : List Str := (["parts"] : List Str)
theorem sc_is_wait : FnScope N_is_wait ["parts"] (defScope s_is_wait) := ⟨rfl, rfl, rfl, by decide +kernel, rfl, by decide +kernel, by decide +kernel⟩
abbrev s_is_ask : Stmt := topS 26
abbrev N_is_ask : List Str := (["parts"] : List Str)
theorem sc_is_ask : FnScope N_is_ask ["parts"] (defScope s_is_ask) := ⟨rfl, rfl, rfl, by decide +kernel, rfl, by decide +kernel, by decide +kernel⟩
abbrev s_is_answer : Stmt := topS 27
abbrev N_is_answer : List Str := (["parts"] : List Str)
theorem sc_is_answer : FnScope N_is_answer ["parts"] (defScope s_is_answer) := ⟨rfl, rfl, rfl, by decide +kernel, rfl, by decide +kernel, by decide +kernel⟩
abbrev s_is_one_term : Stmt := topS 28
abbrev N_is_one_term : List Str := (["parts"] : List Str)
theorem sc_is_one_term : FnScope N_is_one_term ["parts"] (defScope s_is_one_term) := ⟨rfl, rfl, rfl, by decide +kernel, rfl, by decide +kernel, by decide +kernel⟩
abbrev s_count_block : Stmt := topS 30
abbrev N_count_block : List Str := (["kind", "word", "parts", "depth", "bodies", "counts", "body"] : List Str)
theorem sc_count_block : FnScope N_count_block ["kind", "word", "parts", "depth"] (defScope s_count_block) := ⟨rfl, rfl, rfl, by decide +kernel, rfl, by decide +kernel, by decide +kernel⟩
abbrev s_count_statement : Stmt := topS 31
abbrev N_count_statement : List Str := (["kind", "thing", "depth", "word", "parts", "check"] : List Str)
theorem sc_count_statement : FnScope N_count_statement ["kind", "thing", "depth"] (defScope s_count_statement) := ⟨rfl, rfl, rfl, by decide +kernel, rfl, by decide +kernel, by decide +kernel⟩
abbrev s_count_body : Stmt := topS 32
abbrev N_count_body : List Str := (["kind", "thing", "depth", "counts", "statement"] : List Str)
theorem sc_count_body : FnScope N_count_body ["kind", "thing", "depth"] (defScope s_count_body) := ⟨rfl, rfl, rfl, by decide +kernel, rfl, by decide +kernel, by decide +kernel⟩
abbrev s_is_program : Stmt := topS 33
abbrev N_is_program : List Str := (["thing", "count"] : List Str)
theorem sc_is_program : FnScope N_is_program ["thing"] (defScope s_is_program) := ⟨rfl, rfl, rfl, by decide +kernel, rfl, by decide +kernel, by decide +kernel⟩
abbrev s_check_program : Stmt := topS 34
abbrev N_check_program : List Str := (["thing", "kind"] : List Str)
theorem sc_check_program : FnScope N_check_program ["thing", "kind"] (defScope s_check_program) := ⟨rfl, rfl, rfl, by decide +kernel, rfl, by decide +kernel, by decide +kernel⟩
abbrev s_place_if : Stmt := topS 36
abbrev N_place_if : List Str := (["code", "parts", "condition", "first", "second", "test", "jump"] : List Str)
theorem sc_place_if : FnScope N_place_if ["code", "parts"] (defScope s_place_if) := ⟨rfl, rfl, rfl, by decide +kernel, rfl, by decide +kernel, by decide +kernel⟩
abbrev s_place_while : Stmt := topS 37
abbrev N_place_while : List Str := (["code", "parts", "condition", "body", "test"] : List Str)
theorem sc_place_while : FnScope N_place_while ["code", "parts"] (defScope s_place_while) := ⟨rfl, rfl, rfl, by decide +kernel, rfl, by decide +kernel, by decide +kernel⟩
abbrev s_place_body : Stmt := topS 39
abbrev N_place_body : List Str := (["code", "body", "statement", "word", "parts", "place"] : List Str)
theorem sc_place_body : FnScope N_place_body ["code", "body"] (defScope s_place_body) := ⟨rfl, rfl, rfl, by decide +kernel, rfl, by decide +kernel, by decide +kernel⟩
abbrev s_assemble : Stmt := topS 40
abbrev N_assemble : List Str := (["program", "code"] : List Str)
theorem sc_assemble : FnScope N_assemble ["program"] (defScope s_assemble) := ⟨rfl, rfl, rfl, by decide +kernel, rfl, by decide +kernel, by decide +kernel⟩
abbrev s__law_bag : Stmt := topS 42
abbrev N__law_bag : List Str := (["_law_script", "_law_k", "_law_cell", "_law_state"] : List Str)
theorem sc__law_bag : FnScope N__law_bag ["_law_script", "_law_k"] (defScope s__law_bag) := ⟨rfl, rfl, rfl, by decide +kernel, rfl, by decide +kernel, by decide +kernel⟩
abbrev s__law_draw : Stmt := topS 43
abbrev N__law_draw : List Str := (["_law_bag_here", "_law_many", "_law_found"] : List Str)
theorem sc__law_draw : FnScope N__law_draw ["_law_bag_here", "_law_many"] (defScope s__law_draw) := ⟨rfl, rfl, rfl, by decide +kernel, rfl, by decide +kernel, by decide +kernel⟩
abbrev s__law_large : Stmt := topS 44
abbrev N__law_large : List Str := (["_law_bag_here", "_law_many", "_law_number", "_law_room"] : List Str)
theorem sc__law_large : FnScope N__law_large ["_law_bag_here", "_law_many"] (defScope s__law_large) := ⟨rfl, rfl, rfl, by decide +kernel, rfl, by decide +kernel, by decide +kernel⟩
abbrev s__law_steps : Stmt := topS 45
abbrev N__law_steps : List Str := (["_law_bag_here"] : List Str)
theorem sc__law_steps : FnScope N__law_steps ["_law_bag_here"] (defScope s__law_steps) := ⟨rfl, rfl, rfl, by decide +kernel, rfl, by decide +kernel, by decide +kernel⟩
abbrev s__law_term : Stmt := topS 46
abbrev N__law_term : List Str := (["_law_bag_here", "_law_value"] : List Str)
theorem sc__law_term : FnScope N__law_term ["_law_bag_here"] (defScope s__law_term) := ⟨rfl, rfl, rfl, by decide +kernel, rfl, by decide +kernel, by decide +kernel⟩
abbrev s__law_condition : Stmt := topS 47
abbrev N__law_condition : List Str := (["_law_bag_here"] : List Str)
theorem sc__law_condition : FnScope N__law_condition ["_law_bag_here"] (defScope s__law_condition) := ⟨rfl, rfl, rfl, by decide +kernel, rfl, by decide +kernel, by decide +kernel⟩
abbrev s__law_simple : Stmt := topS 48
abbrev N__law_simple : List Str := (["_law_bag_here", "_law_kind_here", "_law_way", "_law_variable"] : List Str)
theorem sc__law_simple : FnScope N__law_simple ["_law_bag_here", "_law_kind_here"] (defScope s__law_simple) := ⟨rfl, rfl, rfl, by decide +kernel, rfl, by decide +kernel, by decide +kernel⟩
abbrev s__law_statement : Stmt := topS 49
abbrev N__law_statement : List Str := (["_law_bag_here", "_law_kind_here", "_law_room", "_law_depth", "_law_way", "_law_condition_here", "_law_first"] : List Str)
theorem sc__law_statement : FnScope N__law_statement ["_law_bag_here", "_law_kind_here", "_law_room", "_law_depth"] (defScope s__law_statement) := ⟨rfl, rfl, rfl, by decide +kernel, rfl, by decide +kernel, by decide +kernel⟩
abbrev s__law_body : Stmt := topS 50
abbrev N__law_body : List Str := (["_law_bag_here", "_law_kind_here", "_law_room", "_law_depth", "_law_most", "_law_body_here", "_law_turn"] : List Str)
theorem sc__law_body : FnScope N__law_body ["_law_bag_here", "_law_kind_here", "_law_room", "_law_depth", "_law_most"] (defScope s__law_body) := ⟨rfl, rfl, rfl, by decide +kernel, rfl, by decide +kernel, by decide +kernel⟩
abbrev s__law_program : Stmt := topS 51
abbrev N__law_program : List Str := (["_law_bag_here", "_law_kind_here", "_law_most", "_law_room"] : List Str)
theorem sc__law_program : FnScope N__law_program ["_law_bag_here", "_law_kind_here", "_law_most"] (defScope s__law_program) := ⟨rfl, rfl, rfl, by decide +kernel, rfl, by decide +kernel, by decide +kernel⟩
abbrev s__law_kind : Stmt := topS 52
abbrev N__law_kind : List Str := (["_law_bag_here"] : List Str)
theorem sc__law_kind : FnScope N__law_kind ["_law_bag_here"] (defScope s__law_kind) := ⟨rfl, rfl, rfl, by decide +kernel, rfl, by decide +kernel, by decide +kernel⟩
abbrev s__law_whole : Stmt := topS 53
abbrev N__law_whole : List Str := (["_law_thing"] : List Str)
theorem sc__law_whole : FnScope N__law_whole ["_law_thing"] (defScope s__law_whole) := ⟨rfl, rfl, rfl, by decide +kernel, rfl, by decide +kernel, by decide +kernel⟩
abbrev s__law_code : Stmt := topS 54
abbrev N__law_code : List Str := (["_law_body_here", "_law_code_here", "_law_statement_here", "_law_at", "_law_jump"] : List Str)
theorem sc__law_code : FnScope N__law_code ["_law_body_here", "_law_code_here"] (defScope s__law_code) := ⟨rfl, rfl, rfl, by decide +kernel, rfl, by decide +kernel, by decide +kernel⟩
abbrev s__law_is_term : Stmt := topS 55
abbrev N__law_is_term : List Str := (["_law_thing"] : List Str)
theorem sc__law_is_term : FnScope N__law_is_term ["_law_thing"] (defScope s__law_is_term) := ⟨rfl, rfl, rfl, by decide +kernel, rfl, by decide +kernel, by decide +kernel⟩
abbrev s__law_is_variable : Stmt := topS 56
abbrev N__law_is_variable : List Str := (["_law_thing"] : List Str)
theorem sc__law_is_variable : FnScope N__law_is_variable ["_law_thing"] (defScope s__law_is_variable) := ⟨rfl, rfl, rfl, by decide +kernel, rfl, by decide +kernel, by decide +kernel⟩
abbrev s__law_is_condition : Stmt := topS 57
abbrev N__law_is_condition : List Str := (["_law_thing"] : List Str)
theorem sc__law_is_condition : FnScope N__law_is_condition ["_law_thing"] (defScope s__law_is_condition) := ⟨rfl, rfl, rfl, by decide +kernel, rfl, by decide +kernel, by decide +kernel⟩
abbrev s__law_is_simple : Stmt := topS 58
abbrev N__law_is_simple : List Str := (["_law_kind_here", "_law_thing", "_law_word", "_law_parts"] : List Str)
theorem sc__law_is_simple : FnScope N__law_is_simple ["_law_kind_here", "_law_thing"] (defScope s__law_is_simple) := ⟨rfl, rfl, rfl, by decide +kernel, rfl, by decide +kernel, by decide +kernel⟩
abbrev s__law_count_one : Stmt := topS 59
abbrev N__law_count_one : List Str := (["_law_kind_here", "_law_thing", "_law_depth", "_law_counts", "_law_body_here"] : List Str)
theorem sc__law_count_one : FnScope N__law_count_one ["_law_kind_here", "_law_thing", "_law_depth"] (defScope s__law_count_one) := ⟨rfl, rfl, rfl, by decide +kernel, rfl, by decide +kernel, by decide +kernel⟩
abbrev s__law_count : Stmt := topS 60
abbrev N__law_count : List Str := (["_law_kind_here", "_law_body_here", "_law_depth", "_law_counts", "_law_statement_here"] : List Str)
theorem sc__law_count : FnScope N__law_count ["_law_kind_here", "_law_body_here", "_law_depth"] (defScope s__law_count) := ⟨rfl, rfl, rfl, by decide +kernel, rfl, by decide +kernel, by decide +kernel⟩
abbrev s__law_is_program : Stmt := topS 61
abbrev N__law_is_program : List Str := (["_law_thing", "_law_count_here"] : List Str)
theorem sc__law_is_program : FnScope N__law_is_program ["_law_thing"] (defScope s__law_is_program) := ⟨rfl, rfl, rfl, by decide +kernel, rfl, by decide +kernel, by decide +kernel⟩
abbrev s__law_odd : Stmt := topS 62
abbrev N__law_odd : List Str := (["_law_bag_here", "_law_some"] : List Str)
theorem sc__law_odd : FnScope N__law_odd ["_law_bag_here"] (defScope s__law_odd) := ⟨rfl, rfl, rfl, by decide +kernel, rfl, by decide +kernel, by decide +kernel⟩
abbrev s__law_spoilt : Stmt := topS 63
abbrev N__law_spoilt : List Str := (["_law_bag_here", "_law_thing", "_law_at", "_law_way"] : List Str)
theorem sc__law_spoilt : FnScope N__law_spoilt ["_law_bag_here", "_law_thing"] (defScope s__law_spoilt) := ⟨rfl, rfl, rfl, by decide +kernel, rfl, by decide +kernel, by decide +kernel⟩
abbrev s__law_refused : Stmt := topS 64
abbrev N__law_refused : List Str := (["_law_thing", "e"] : List Str)
theorem sc__law_refused : FnScope N__law_refused ["_law_thing"] (defScope s__law_refused) := ⟨rfl, rfl, rfl, by decide +kernel, rfl, by decide +kernel, by decide +kernel⟩
abbrev s__law_right : Stmt := topS 65
abbrev N__law_right : List Str := (["_law_found", "_law_due", "_law_step"] : List Str)
theorem sc__law_right : FnScope N__law_right ["_law_found", "_law_due"] (defScope s__law_right) := ⟨rfl, rfl, rfl, by decide +kernel, rfl, by decide +kernel, by decide +kernel⟩
abbrev s_law : Stmt := topS 66
abbrev N_law : List Str := (["_law_script", "_law_k", "_law_bag_here", "_law_program_here", "_law_due", "_law_found", "_law_thing"] : List Str)
theorem sc_law : FnScope N_law ["_law_script"] (defScope s_law) := ⟨rfl, rfl, rfl, by decide +kernel, rfl, by decide +kernel, by decide +kernel⟩
structure Txt (w : World) (K : PySem.W.Frag) (mg : Str → Option Value) : Prop where
  m_ValueError : mg "ValueError" = none
  m_len : mg "len" = none
  m_range : mg "range" = none
  m_tuple : mg "tuple" = none
  m_isinstance : mg "isinstance" = none
  m_str : mg "str" = none
  m_sum : mg "sum" = none
  m_int : mg "int" = none
  m_abs : mg "abs" = none
  m_list : mg "list" = none
  m_max : mg "max" = none
  m_bool : mg "bool" = none
  m_min : mg "min" = none
  c_MOST_STATEMENTS : ∃ t, mg "MOST_STATEMENTS" = some (.int 24 t)
  c_MOST_DEPTH : ∃ t, mg "MOST_DEPTH" = some (.int 4 t)
  c_LONGEST_WAIT : ∃ t, mg "LONGEST_WAIT" = some (.int 1000000000000000000000000000000 t)
  c_SIZE : ∃ t, mg "SIZE" = some (.int 16 t)
  g_VARIABLES : mg "VARIABLES" = some (.ref (He.ga K "VARIABLES"))
  t_VARIABLES : ∀ H : Hp, SqT K H (He.ga K "VARIABLES") [.str "a", .str "b"]
  g_COMPARISONS : mg "COMPARISONS" = some (.ref (He.ga K "COMPARISONS"))
  t_COMPARISONS : ∀ H : Hp, SqT K H (He.ga K "COMPARISONS") [.str "==", .str "!=", .str "<"]
  g_DIRECTIONS : mg "DIRECTIONS" = some (.ref (He.ga K "DIRECTIONS"))
  t_DIRECTIONS : ∀ H : Hp, SqT K H (He.ga K "DIRECTIONS") [.str "+", .str "-", .str "="]
  g_WORDS : mg "WORDS" = some (.ref (He.ga K "WORDS"))
  d_WORDS : DTab K w (He.ga K "WORDS") [("teller", .ref (tabAt "WORDS" "teller" K)), ("collector", .ref (tabAt "WORDS" "collector" K))]
  t_WORDS_teller : ∀ H : Hp, SqT K H (tabAt "WORDS" "teller" K) [.str "set", .str "add", .str "wait", .str "ask", .str "answer"]
  t_WORDS_collector : ∀ H : Hp, SqT K H (tabAt "WORDS" "collector" K) [.str "set", .str "add", .str "wait", .str "grow", .str "list"]
  g_BODIES : mg "BODIES" = some (.ref (He.ga K "BODIES"))
  d_BODIES : DTab K w (He.ga K "BODIES") [("if", .int 2), ("while", .int 1)]
  g_CHECKS : mg "CHECKS" = some (.ref (He.ga K "CHECKS"))
  d_CHECKS : DTab K w (He.ga K "CHECKS") [("set", .ref (He.ga K "is_set")), ("add", .ref (He.ga K "is_add")), ("wait", .ref (He.ga K "is_wait")), ("ask", .ref (He.ga K "is_ask")), ("answer", .ref (He.ga K "is_answer")), ("grow", .ref (He.ga K "is_one_term")), ("list", .ref (He.ga K "is_one_term"))]
  g_BLOCKS : mg "BLOCKS" = some (.ref (He.ga K "BLOCKS"))
  d_BLOCKS : DTab K w (He.ga K "BLOCKS") [("if", .ref (He.ga K "place_if")), ("while", .ref (He.ga K "place_while"))]
  g_is_integer : mg "is_integer" = some (.ref (He.ga K "is_integer"))
  F_is_integer : ∃ fd, FunD K "is_integer" "is_integer" (defArgs s_is_integer) (defBody s_is_integer) (defScope s_is_integer) [] [] (He.ga K "is_integer") fd
  g_is_one_of : mg "is_one_of" = some (.ref (He.ga K "is_one_of"))
  F_is_one_of : ∃ fd, FunD K "is_one_of" "is_one_of" (defArgs s_is_one_of) (defBody s_is_one_of) (defScope s_is_one_of) [] [] (He.ga K "is_one_of") fd
  g_is_value : mg "is_value" = some (.ref (He.ga K "is_value"))
  F_is_value : ∃ fd, FunD K "is_value" "is_value" (defArgs s_is_value) (defBody s_is_value) (defScope s_is_value) [] [] (He.ga K "is_value") fd
  g_is_term : mg "is_term" = some (.ref (He.ga K "is_term"))
  F_is_term : ∃ fd, FunD K "is_term" "is_term" (defArgs s_is_term) (defBody s_is_term) (defScope s_is_term) [] [] (He.ga K "is_term") fd
  g_is_condition : mg "is_condition" = some (.ref (He.ga K "is_condition"))
  F_is_condition : ∃ fd, FunD K "is_condition" "is_condition" (defArgs s_is_condition) (defBody s_is_condition) (defScope s_is_condition) [] [] (He.ga K "is_condition") fd
  g_is_set : mg "is_set" = some (.ref (He.ga K "is_set"))
  F_is_set : ∃ fd, FunD K "is_set" "is_set" (defArgs s_is_set) (defBody s_is_set) (defScope s_is_set) [] [] (He.ga K "is_set") fd
  g_is_add : mg "is_add" = some (.ref (He.ga K "is_add"))
  F_is_add : ∃ fd, FunD K "is_add" "is_add" (defArgs s_is_add) (defBody s_is_add) (defScope s_is_add) [] [] (He.ga K "is_add") fd
  g_is_wait : mg "is_wait" = some (.ref (He.ga K "is_wait"))
  F_is_wait : ∃ fd, FunD K "is_wait" "is_wait" (defArgs s_is_wait) (defBody s_is_wait) (defScope s_is_wait) [] [] (He.ga K "is_wait") fd
  g_is_ask : mg "is_ask" = some (.ref (He.ga K "is_ask"))
  F_is_ask : ∃ fd, FunD K "is_ask" "is_ask" (defArgs s_is_ask) (defBody s_is_ask) (defScope s_is_ask) [] [] (He.ga K "is_ask") fd
  g_is_answer : mg "is_answer" = some (.ref (He.ga K "is_answer"))
  F_is_answer : ∃ fd, FunD K "is_answer" "is_answer" (defArgs s_is_answer) (defBody s_is_answer) (defScope s_is_answer) [] [] (He.ga K "is_answer") fd
  g_is_one_term : mg "is_one_term" = some (.ref (He.ga K "is_one_term"))
  F_is_one_term : ∃ fd, FunD K "is_one_term" "is_one_term" (defArgs s_is_one_term) (defBody s_is_one_term) (defScope s_is_one_term) [] [] (He.ga K "is_one_term") fd
  g_count_block : mg "count_block" = some (.ref (He.ga K "count_block"))
  F_count_block : ∃ fd, FunD K "count_block" "count_block" (defArgs s_count_block) (defBody s_count_block) (defScope s_count_block) [] [] (He.ga K "count_block") fd
  g_count_statement : mg "count_statement" = some (.ref (He.ga K "count_statement"))
  F_count_statement : ∃ fd, FunD K "count_statement" "count_statement" (defArgs s_count_statement) (defBody s_count_statement) (defScope s_count_statement) [] [] (He.ga K "count_statement") fd
  g_count_body : mg "count_body" = some (.ref (He.ga K "count_body"))
  F_count_body : ∃ fd, FunD K "count_body" "count_body" (defArgs s_count_body) (defBody s_count_body) (defScope s_count_body) [] [] (He.ga K "count_body") fd
  g_is_program : mg "is_program" = some (.ref (He.ga K "is_program"))
  F_is_program : ∃ fd, FunD K "is_program" "is_program" (defArgs s_is_program) (defBody s_is_program) (defScope s_is_program) [] [] (He.ga K "is_program") fd
  g_check_program : mg "check_program" = some (.ref (He.ga K "check_program"))
  F_check_program : ∃ fd, FunD K "check_program" "check_program" (defArgs s_check_program) (defBody s_check_program) (defScope s_check_program) [] [("kind", .non)] (He.ga K "check_program") fd
  g_place_if : mg "place_if" = some (.ref (He.ga K "place_if"))
  F_place_if : ∃ fd, FunD K "place_if" "place_if" (defArgs s_place_if) (defBody s_place_if) (defScope s_place_if) [] [] (He.ga K "place_if") fd
  g_place_while : mg "place_while" = some (.ref (He.ga K "place_while"))
  F_place_while : ∃ fd, FunD K "place_while" "place_while" (defArgs s_place_while) (defBody s_place_while) (defScope s_place_while) [] [] (He.ga K "place_while") fd
  g_place_body : mg "place_body" = some (.ref (He.ga K "place_body"))
  F_place_body : ∃ fd, FunD K "place_body" "place_body" (defArgs s_place_body) (defBody s_place_body) (defScope s_place_body) [] [] (He.ga K "place_body") fd
  g_assemble : mg "assemble" = some (.ref (He.ga K "assemble"))
  F_assemble : ∃ fd, FunD K "assemble" "assemble" (defArgs s_assemble) (defBody s_assemble) (defScope s_assemble) [] [] (He.ga K "assemble") fd
  g__law_bag : mg "_law_bag" = some (.ref (He.ga K "_law_bag"))
  F__law_bag : ∃ fd, FunD K "_law_bag" "_law_bag" (defArgs s__law_bag) (defBody s__law_bag) (defScope s__law_bag) [] [] (He.ga K "_law_bag") fd
  g__law_draw : mg "_law_draw" = some (.ref (He.ga K "_law_draw"))
  F__law_draw : ∃ fd, FunD K "_law_draw" "_law_draw" (defArgs s__law_draw) (defBody s__law_draw) (defScope s__law_draw) [] [] (He.ga K "_law_draw") fd
  g__law_large : mg "_law_large" = some (.ref (He.ga K "_law_large"))
  F__law_large : ∃ fd, FunD K "_law_large" "_law_large" (defArgs s__law_large) (defBody s__law_large) (defScope s__law_large) [] [] (He.ga K "_law_large") fd
  g__law_steps : mg "_law_steps" = some (.ref (He.ga K "_law_steps"))
  F__law_steps : ∃ fd, FunD K "_law_steps" "_law_steps" (defArgs s__law_steps) (defBody s__law_steps) (defScope s__law_steps) [] [] (He.ga K "_law_steps") fd
  g__law_term : mg "_law_term" = some (.ref (He.ga K "_law_term"))
  F__law_term : ∃ fd, FunD K "_law_term" "_law_term" (defArgs s__law_term) (defBody s__law_term) (defScope s__law_term) [] [] (He.ga K "_law_term") fd
  g__law_condition : mg "_law_condition" = some (.ref (He.ga K "_law_condition"))
  F__law_condition : ∃ fd, FunD K "_law_condition" "_law_condition" (defArgs s__law_condition) (defBody s__law_condition) (defScope s__law_condition) [] [] (He.ga K "_law_condition") fd
  g__law_simple : mg "_law_simple" = some (.ref (He.ga K "_law_simple"))
  F__law_simple : ∃ fd, FunD K "_law_simple" "_law_simple" (defArgs s__law_simple) (defBody s__law_simple) (defScope s__law_simple) [] [] (He.ga K "_law_simple") fd
  g__law_statement : mg "_law_statement" = some (.ref (He.ga K "_law_statement"))
  F__law_statement : ∃ fd, FunD K "_law_statement" "_law_statement" (defArgs s__law_statement) (defBody s__law_statement) (defScope s__law_statement) [] [] (He.ga K "_law_statement") fd
  g__law_body : mg "_law_body" = some (.ref (He.ga K "_law_body"))
  F__law_body : ∃ fd, FunD K "_law_body" "_law_body" (defArgs s__law_body) (defBody s__law_body) (defScope s__law_body) [] [] (He.ga K "_law_body") fd
  g__law_program : mg "_law_program" = some (.ref (He.ga K "_law_program"))
  F__law_program : ∃ fd, FunD K "_law_program" "_law_program" (defArgs s__law_program) (defBody s__law_program) (defScope s__law_program) [] [] (He.ga K "_law_program") fd
  g__law_kind : mg "_law_kind" = some (.ref (He.ga K "_law_kind"))
  F__law_kind : ∃ fd, FunD K "_law_kind" "_law_kind" (defArgs s__law_kind) (defBody s__law_kind) (defScope s__law_kind) [] [] (He.ga K "_law_kind") fd
  g__law_whole : mg "_law_whole" = some (.ref (He.ga K "_law_whole"))
  F__law_whole : ∃ fd, FunD K "_law_whole" "_law_whole" (defArgs s__law_whole) (defBody s__law_whole) (defScope s__law_whole) [] [] (He.ga K "_law_whole") fd
  g__law_code : mg "_law_code" = some (.ref (He.ga K "_law_code"))
  F__law_code : ∃ fd, FunD K "_law_code" "_law_code" (defArgs s__law_code) (defBody s__law_code) (defScope s__law_code) [] [] (He.ga K "_law_code") fd
  g__law_is_term : mg "_law_is_term" = some (.ref (He.ga K "_law_is_term"))
  F__law_is_term : ∃ fd, FunD K "_law_is_term" "_law_is_term" (defArgs s__law_is_term) (defBody s__law_is_term) (defScope s__law_is_term) [] [] (He.ga K "_law_is_term") fd
  g__law_is_variable : mg "_law_is_variable" = some (.ref (He.ga K "_law_is_variable"))
  F__law_is_variable : ∃ fd, FunD K "_law_is_variable" "_law_is_variable" (defArgs s__law_is_variable) (defBody s__law_is_variable) (defScope s__law_is_variable) [] [] (He.ga K "_law_is_variable") fd
  g__law_is_condition : mg "_law_is_condition" = some (.ref (He.ga K "_law_is_condition"))
  F__law_is_condition : ∃ fd, FunD K "_law_is_condition" "_law_is_condition" (defArgs s__law_is_condition) (defBody s__law_is_condition) (defScope s__law_is_condition) [] [] (He.ga K "_law_is_condition") fd
  g__law_is_simple : mg "_law_is_simple" = some (.ref (He.ga K "_law_is_simple"))
  F__law_is_simple : ∃ fd, FunD K "_law_is_simple" "_law_is_simple" (defArgs s__law_is_simple) (defBody s__law_is_simple) (defScope s__law_is_simple) [] [] (He.ga K "_law_is_simple") fd
  g__law_count_one : mg "_law_count_one" = some (.ref (He.ga K "_law_count_one"))
  F__law_count_one : ∃ fd, FunD K "_law_count_one" "_law_count_one" (defArgs s__law_count_one) (defBody s__law_count_one) (defScope s__law_count_one) [] [] (He.ga K "_law_count_one") fd
  g__law_count : mg "_law_count" = some (.ref (He.ga K "_law_count"))
  F__law_count : ∃ fd, FunD K "_law_count" "_law_count" (defArgs s__law_count) (defBody s__law_count) (defScope s__law_count) [] [] (He.ga K "_law_count") fd
  g__law_is_program : mg "_law_is_program" = some (.ref (He.ga K "_law_is_program"))
  F__law_is_program : ∃ fd, FunD K "_law_is_program" "_law_is_program" (defArgs s__law_is_program) (defBody s__law_is_program) (defScope s__law_is_program) [] [] (He.ga K "_law_is_program") fd
  g__law_odd : mg "_law_odd" = some (.ref (He.ga K "_law_odd"))
  F__law_odd : ∃ fd, FunD K "_law_odd" "_law_odd" (defArgs s__law_odd) (defBody s__law_odd) (defScope s__law_odd) [] [] (He.ga K "_law_odd") fd
  g__law_spoilt : mg "_law_spoilt" = some (.ref (He.ga K "_law_spoilt"))
  F__law_spoilt : ∃ fd, FunD K "_law_spoilt" "_law_spoilt" (defArgs s__law_spoilt) (defBody s__law_spoilt) (defScope s__law_spoilt) [] [] (He.ga K "_law_spoilt") fd
  g__law_refused : mg "_law_refused" = some (.ref (He.ga K "_law_refused"))
  F__law_refused : ∃ fd, FunD K "_law_refused" "_law_refused" (defArgs s__law_refused) (defBody s__law_refused) (defScope s__law_refused) [] [] (He.ga K "_law_refused") fd
  g__law_right : mg "_law_right" = some (.ref (He.ga K "_law_right"))
  F__law_right : ∃ fd, FunD K "_law_right" "_law_right" (defArgs s__law_right) (defBody s__law_right) (defScope s__law_right) [] [] (He.ga K "_law_right") fd
  g_law : mg "law" = some (.ref (He.ga K "law"))
  F_law : ∃ fd, FunD K "law" "law" (defArgs s_law) (defBody s_law) (defScope s_law) [] [] (He.ga K "law") fd
  g_HouseError : mg "HouseError" = some (.ref (He.ga K "HouseError"))
  g_BadProgram : mg "BadProgram" = some (.ref (He.ga K "BadProgram"))
  g_BadText : mg "BadText" = some (.ref (He.ga K "BadText"))
  g_BadSide : mg "BadSide" = some (.ref (He.ga K "BadSide"))
  g_BadSteps : mg "BadSteps" = some (.ref (He.ga K "BadSteps"))
  g_BadHistory : mg "BadHistory" = some (.ref (He.ga K "BadHistory"))
  g_BadRow : mg "BadRow" = some (.ref (He.ga K "BadRow"))
  x_HouseError : ExcD K (He.ga K "HouseError") ve "ValueError.__new__"
  x_BadProgram : ExcD K (He.ga K "BadProgram") ve "ValueError.__new__"
  x_BadSide : ExcD K (He.ga K "BadSide") ve "ValueError.__new__"
  x_BadSteps : ExcD K (He.ga K "BadSteps") ve "ValueError.__new__"
  x_BadRow : ExcD K (He.ga K "BadRow") ve "ValueError.__new__"
  u_HouseError_HouseError : Und K (He.ga K "HouseError") (He.ga K "HouseError") true
  u_HouseError_BadProgram : Und K (He.ga K "HouseError") (He.ga K "BadProgram") false
  u_HouseError_BadText : Und K (He.ga K "HouseError") (He.ga K "BadText") false
  u_HouseError_BadSide : Und K (He.ga K "HouseError") (He.ga K "BadSide") false
  u_HouseError_BadSteps : Und K (He.ga K "HouseError") (He.ga K "BadSteps") false
  u_HouseError_BadHistory : Und K (He.ga K "HouseError") (He.ga K "BadHistory") false
  u_HouseError_BadRow : Und K (He.ga K "HouseError") (He.ga K "BadRow") false
  u_BadProgram_HouseError : Und K (He.ga K "BadProgram") (He.ga K "HouseError") true
  u_BadProgram_BadProgram : Und K (He.ga K "BadProgram") (He.ga K "BadProgram") true
  u_BadProgram_BadText : Und K (He.ga K "BadProgram") (He.ga K "BadText") false
  u_BadProgram_BadSide : Und K (He.ga K "BadProgram") (He.ga K "BadSide") false
  u_BadProgram_BadSteps : Und K (He.ga K "BadProgram") (He.ga K "BadSteps") false
  u_BadProgram_BadHistory : Und K (He.ga K "BadProgram") (He.ga K "BadHistory") false
  u_BadProgram_BadRow : Und K (He.ga K "BadProgram") (He.ga K "BadRow") false
  u_BadText_HouseError : Und K (He.ga K "BadText") (He.ga K "HouseError") true
  u_BadText_BadProgram : Und K (He.ga K "BadText") (He.ga K "BadProgram") false
  u_BadText_BadText : Und K (He.ga K "BadText") (He.ga K "BadText") true
  u_BadText_BadSide : Und K (He.ga K "BadText") (He.ga K "BadSide") false
  u_BadText_BadSteps : Und K (He.ga K "BadText") (He.ga K "BadSteps") false
  u_BadText_BadHistory : Und K (He.ga K "BadText") (He.ga K "BadHistory") false
  u_BadText_BadRow : Und K (He.ga K "BadText") (He.ga K "BadRow") false
  u_BadSide_HouseError : Und K (He.ga K "BadSide") (He.ga K "HouseError") true
  u_BadSide_BadProgram : Und K (He.ga K "BadSide") (He.ga K "BadProgram") false
  u_BadSide_BadText : Und K (He.ga K "BadSide") (He.ga K "BadText") false
  u_BadSide_BadSide : Und K (He.ga K "BadSide") (He.ga K "BadSide") true
  u_BadSide_BadSteps : Und K (He.ga K "BadSide") (He.ga K "BadSteps") false
  u_BadSide_BadHistory : Und K (He.ga K "BadSide") (He.ga K "BadHistory") false
  u_BadSide_BadRow : Und K (He.ga K "BadSide") (He.ga K "BadRow") false
  u_BadSteps_HouseError : Und K (He.ga K "BadSteps") (He.ga K "HouseError") true
  u_BadSteps_BadProgram : Und K (He.ga K "BadSteps") (He.ga K "BadProgram") false
  u_BadSteps_BadText : Und K (He.ga K "BadSteps") (He.ga K "BadText") false
  u_BadSteps_BadSide : Und K (He.ga K "BadSteps") (He.ga K "BadSide") false
  u_BadSteps_BadSteps : Und K (He.ga K "BadSteps") (He.ga K "BadSteps") true
  u_BadSteps_BadHistory : Und K (He.ga K "BadSteps") (He.ga K "BadHistory") false
  u_BadSteps_BadRow : Und K (He.ga K "BadSteps") (He.ga K "BadRow") false
  u_BadHistory_HouseError : Und K (He.ga K "BadHistory") (He.ga K "HouseError") true
  u_BadHistory_BadProgram : Und K (He.ga K "BadHistory") (He.ga K "BadProgram") false
  u_BadHistory_BadText : Und K (He.ga K "BadHistory") (He.ga K "BadText") false
  u_BadHistory_BadSide : Und K (He.ga K "BadHistory") (He.ga K "BadSide") false
  u_BadHistory_BadSteps : Und K (He.ga K "BadHistory") (He.ga K "BadSteps") false
  u_BadHistory_BadHistory : Und K (He.ga K "BadHistory") (He.ga K "BadHistory") true
  u_BadHistory_BadRow : Und K (He.ga K "BadHistory") (He.ga K "BadRow") false
  u_BadRow_HouseError : Und K (He.ga K "BadRow") (He.ga K "HouseError") true
  u_BadRow_BadProgram : Und K (He.ga K "BadRow") (He.ga K "BadProgram") false
  u_BadRow_BadText : Und K (He.ga K "BadRow") (He.ga K "BadText") false
  u_BadRow_BadSide : Und K (He.ga K "BadRow") (He.ga K "BadSide") false
  u_BadRow_BadSteps : Und K (He.ga K "BadRow") (He.ga K "BadSteps") false
  u_BadRow_BadHistory : Und K (He.ga K "BadRow") (He.ga K "BadHistory") false
  u_BadRow_BadRow : Und K (He.ga K "BadRow") (He.ga K "BadRow") true
end Nt

namespace Nt
open PySem PySem.Spec PyProof.Rows L2 Evl
/-! ### programs.py: the mirror -/
def vars : List Str := ["a", "b"]
def comps : List Str := ["==", "!=", "<"]
def dirs : List Str := ["+", "-", "="]
def isI : PyData → Bool
  | .int _ => true
  | _ => false
def isOne (ns : List Str) : PyData → Bool
  | .str s => ns.contains s
  | _ => false
def isVal : PyData → Bool
  | .int i => decide (0 ≤ i) && decide (i < 16)
  | _ => false
def isTerm (d : PyData) : Bool := isVal d || isOne vars d
def isCond : PyData → Bool
  | .tuple [v, s, t] => isOne vars v && (isOne comps s && isTerm t)
  | _ => false
def pSet : List PyData → Bool
  | [v, x] => isOne vars v && isVal x
  | _ => false
def pAdd : List PyData → Bool
  | [v, x] => isOne vars v && isTerm x
  | _ => false
def pWait : List PyData → Bool
  | [.int i] => decide (1 ≤ i) && decide (i ≤ 1000000000000000000000000000000)
  | _ => false
def pAsk : List PyData → Bool
  | [s, t, v] => isOne dirs s && (isTerm t && isOne vars v)
  | _ => false
def pAns : List PyData → Bool
  | [.int i] => decide (0 ≤ i) && decide (i ≤ 1)
  | _ => false
def pTerm : List PyData → Bool
  | [t] => isTerm t
  | _ => false
theorem in_strs (s : Str) (ns : List Str) : inV (.str s) (ns.map V.str) = ns.contains s := by
  unfold inV
  rw [List.contains_eq_any_beq, List.any_map]
  congr 1
  funext y
  show eqV (V.str y) (V.str s) = (s == y)
  simp only [eqV]
  by_cases h : y = s
  · subst h; simp
  · have h1 : (y == s) = false := beq_eq_false_iff_ne.mpr h
    have h2 : (s == y) = false := beq_eq_false_iff_ne.mpr fun q => h q.symm
    rw [h1, h2]
theorem flat_strs (ns : List Str) : (ns.map V.str).all flatV = true := by
  rw [List.all_map]
  exact List.all_eq_true.mpr fun _ _ => rfl
def spOne (K : PySem.W.Frag) : Sp := fun vs H Q _ => ∃ (v : V) (d : PyData) (a : Addr) (ns : List Str), vs = [v, .ref a] ∧ Dp K H v d ∧ SqT K H a (ns.map V.str) ∧ ∀ H', Same H H' → Q (.bl (isOne ns d)) H'
theorem spvOne {K : PySem.W.Frag} {v : V} {d : PyData} {a : Addr} {ns : List Str} {H : Hp} (h : Dp K H v d) (ha : SqT K H a (ns.map V.str)) : SpV (spOne K) [v, .ref a] H (.bl (isOne ns d)) := fun H1 e Q q E =>
  ⟨v, d, a, ns, rfl, dp_mono e h, ex_t e ha, fun H' e' => q H' e'⟩
def spL (K : PySem.W.Frag) (f : List PyData → Bool) : Sp := fun vs H Q _ => ∃ (a : Addr) (xs : List V) (ds : List PyData), vs = [.ref a] ∧ SqL K H a xs ∧ DpAll K H xs ds ∧ ∀ H', Same H H' → Q (.bl (f ds)) H'
section
variable {P : Program} {w : World} {K : PySem.W.Frag} {mg : Str → Option Value} {base : Heap}
theorem ok_is_integer (T : Txt w K mg) : Def P w K mg base CX0 1 "is_integer" ["thing"] (sp1 K fun d => .bl (isI d)) := by
  refine mkDef T.F_is_integer T.g_is_integer sc_is_integer (fun _ _ _ _ _ _ us hl => match us, hl with | [_], _ => rfl) (fun vs H Q E h => ?_) (fun cdv A outer s H vs Q E hr h => ?_)
  · obtain ⟨v, d, rfl, _⟩ := h; rfl
  · obtain ⟨v, d, rfl, hd, k⟩ := h
    refine ⟨_, (PSs.nox (pss_one (ps_ret (pe_and (pe_callB call_isi (by rfl) T.m_isinstance boot_isinstance (pa_cons (pv 0) (pa_cons (pe_bltn (v := .ty "int") rfl T.m_int boot_int rfl) pa_nil))) (pe_one (pe_not (pe_callB call_isi (by rfl) T.m_isinstance boot_isinstance (pa_cons (pv 0) (pa_cons (pe_bltn (v := .ty "bool") rfl T.m_bool boot_bool rfl) pa_nil))))))))), ?_⟩
    refine s_ret (ev_is (ev_andV (ev_cb (ea_cons (ev_var rfl) (ea_cons ev_c ea_nil)) (isi_d hd (kit_int d))) fun _ => ev_notV (ev_cb (ea_cons (ev_var rfl) (ea_cons ev_c ea_nil)) (isi_d hd (kit_bool d)))) ?_) k
    cases d <;> rfl
theorem ok_is_one_of (T : Txt w K mg) : Def P w K mg base CX0 1 "is_one_of" ["thing", "names"] (spOne K) := by
  refine mkDef T.F_is_one_of T.g_is_one_of sc_is_one_of (fun _ _ _ _ _ _ us hl => match us, hl with | [_, _], _ => rfl) (fun vs H Q E h => ?_) (fun cdv A outer s H vs Q E hr h => ?_)
  · obtain ⟨v, d, a, ns, rfl, _⟩ := h; rfl
  · obtain ⟨v, d, a, ns, rfl, hd, ha, k⟩ := h
    refine ⟨_, (PSs.nox (pss_one (ps_ret (pe_and (pe_callB call_isi (by rfl) T.m_isinstance boot_isinstance (pa_cons (pv 0) (pa_cons (pe_bltn (v := .ty "str") rfl T.m_str boot_str rfl) pa_nil))) (pe_one (pe_cmpR op_in_seq (pv 0) (pv 1) (by rfl))))))), ?_⟩
    refine s_ret (ev_is (ev_andV (b := isOne ns d) (ev_cb (ea_cons (ev_var rfl) (ea_cons ev_c ea_nil)) (isi_d hd (kit_str d))) fun hs => ?_) ?_) k
    · cases hd with
      | str s => exact ev_is (ev_op (ev_var rfl) (ev_var rfl) (rv_isT ha rfl (flat_strs ns))) (by rw [in_strs]; rfl)
      | _ => cases hs
    · cases d <;> rfl
theorem ok_is_value (T : Txt w K mg) : Def P w K mg base CX0 2 "is_value" ["thing"] (sp1 K fun d => .bl (isVal d)) := by
  have D_is_integer := ok_is_integer (P := P) (base := base) T
  refine mkDef T.F_is_value T.g_is_value sc_is_value (fun _ _ _ _ _ _ us hl => match us, hl with | [_], _ => rfl) (fun vs H Q E h => ?_) (fun cdv A outer s H vs Q E hr h => ?_)
  · obtain ⟨v, d, rfl, _⟩ := h; rfl
  · obtain ⟨v, d, rfl, hd, k⟩ := h
    refine ⟨_, (PSs.nox (pss_one (ps_ret (pe_and (pe_callD D_is_integer (hr.mono (by omega)) rfl pass0 (pa_cons (pv 0) pa_nil)) (pe_one (pe_chain op_le op_lt pe_int (pv 0) (pe_gint rfl T.c_SIZE))))))), ?_⟩
    refine s_ret (ev_is (ev_andV (b := isVal d) (ev_call (ea_cons (ev_var rfl) ea_nil) (spv1 hd)) fun hs => ?_) ?_) k
    · cases hd with
      | int i => exact ev_chain ev_c (ev_var rfl) rv_le (fun _ => ev_c) (fun _ => rv_lt)
      | _ => cases hs
    · cases d <;> rfl
theorem ok_is_term (T : Txt w K mg) : Def P w K mg base CX0 3 "is_term" ["thing"] (sp1 K fun d => .bl (isTerm d)) := by
  have D_is_value := ok_is_value (P := P) (base := base) T
  have D_is_one_of := ok_is_one_of (P := P) (base := base) T
  refine mkDef T.F_is_term T.g_is_term sc_is_term (fun _ _ _ _ _ _ us hl => match us, hl with | [_], _ => rfl) (fun vs H Q E h => ?_) (fun cdv A outer s H vs Q E hr h => ?_)
  · obtain ⟨v, d, rfl, _⟩ := h; rfl
  · obtain ⟨v, d, rfl, hd, k⟩ := h
    refine ⟨_, (PSs.nox (pss_one (ps_ret (pe_or (pe_callD D_is_value (hr.mono (by omega)) rfl pass0 (pa_cons (pv 0) pa_nil)) (pe_one (pe_callD D_is_one_of (hr.mono (by omega)) rfl pass0 (pa_cons (pv 0) (pa_cons (pe_gref rfl T.g_VARIABLES) pa_nil)))))))), ?_⟩
    exact s_ret (ev_orV (ev_call (ea_cons (ev_var rfl) ea_nil) (spv1 hd)) fun _ => ev_call (ea_cons (ev_var rfl) (ea_cons ev_c ea_nil)) (spvOne (ns := vars) hd (T.t_VARIABLES _))) k
end

end Nt

namespace Nt
open PySem PySem.Spec PyProof.Rows L2 Evl
theorem len1 {α : Type} {xs : List α} (h : xs.length = 1) : ∃ a, xs = [a] := by
  match xs, h with
  | [a], _ => exact ⟨a, rfl⟩
theorem len2 {α : Type} {xs : List α} (h : xs.length = 2) : ∃ a b, xs = [a, b] := by
  match xs, h with
  | [a, b], _ => exact ⟨a, b, rfl⟩
theorem len3 {α : Type} {xs : List α} (h : xs.length = 3) : ∃ a b c, xs = [a, b, c] := by
  match xs, h with
  | [a, b, c], _ => exact ⟨a, b, c, rfl⟩
section
variable {K : PySem.W.Frag} {H : Hp}
theorem dp1 {x : V} {ds : List PyData} (h : DpAll K H [x] ds) : ∃ d, ds = [d] ∧ Dp K H x d := by
  cases h with
  | cons h1 h => cases h; exact ⟨_, rfl, h1⟩
theorem dp2 {x y : V} {ds : List PyData} (h : DpAll K H [x, y] ds) : ∃ d e, ds = [d, e] ∧ Dp K H x d ∧ Dp K H y e := by
  cases h with
  | cons h1 h =>
    obtain ⟨e, rfl, h2⟩ := dp1 h
    exact ⟨_, _, rfl, h1, h2⟩
theorem dp3 {x y z : V} {ds : List PyData} (h : DpAll K H [x, y, z] ds) : ∃ d e f, ds = [d, e, f] ∧ Dp K H x d ∧ Dp K H y e ∧ Dp K H z f := by
  cases h with
  | cons h1 h =>
    obtain ⟨e, f, rfl, h2, h3⟩ := dp2 h
    exact ⟨_, _, _, rfl, h1, h2, h3⟩
theorem dp_tupI {v : V} {d : PyData} (h : Dp K H v d) (ht : isTup d = true) : ∃ a xs ds, v = .ref a ∧ d = .tuple ds ∧ SqT K H a xs ∧ DpAll K H xs ds := by
  cases h with
  | tup h1 h2 => exact ⟨_, _, _, rfl, rfl, h1, h2⟩
  | _ => cases ht
theorem dp_strI {v : V} {d : PyData} (h : Dp K H v d) (ht : isStr d = true) : ∃ s, v = .str s ∧ d = .str s := by
  cases h with
  | str s => exact ⟨s, rfl, rfl⟩
  | _ => cases ht
end
theorem isCond_not {d : PyData} (h : isTup d = false) : isCond d = false := by
  cases d <;> first | rfl | cases h
theorem isCond_len {ds : List PyData} (h : ¬ ds.length = 3) : isCond (.tuple ds) = false := by
  match ds, h with
  | [], _ => rfl
  | [_], _ => rfl
  | [_, _], _ => rfl
  | [_, _, _], h => exact absurd rfl h
  | _ :: _ :: _ :: _ :: _, _ => rfl
theorem pSet_len {ds : List PyData} (h : ¬ ds.length = 2) : pSet ds = false := by
  match ds, h with
  | [], _ => rfl
  | [_], _ => rfl
  | [_, _], h => exact absurd rfl h
  | _ :: _ :: _ :: _, _ => rfl
theorem pAdd_len {ds : List PyData} (h : ¬ ds.length = 2) : pAdd ds = false := by
  match ds, h with
  | [], _ => rfl
  | [_], _ => rfl
  | [_, _], h => exact absurd rfl h
  | _ :: _ :: _ :: _, _ => rfl
theorem pAsk_len {ds : List PyData} (h : ¬ ds.length = 3) : pAsk ds = false := by
  match ds, h with
  | [], _ => rfl
  | [_], _ => rfl
  | [_, _], _ => rfl
  | [_, _, _], h => exact absurd rfl h
  | _ :: _ :: _ :: _ :: _, _ => rfl
theorem pWait_len {ds : List PyData} (h : ¬ ds.length = 1) : pWait ds = false := by
  match ds, h with
  | [], _ => rfl
  | [_], h => exact absurd rfl h
  | x :: _ :: _, _ => cases x <;> rfl
theorem pAns_len {ds : List PyData} (h : ¬ ds.length = 1) : pAns ds = false := by
  match ds, h with
  | [], _ => rfl
  | [_], h => exact absurd rfl h
  | x :: _ :: _, _ => cases x <;> rfl
theorem pTerm_len {ds : List PyData} (h : ¬ ds.length = 1) : pTerm ds = false := by
  match ds, h with
  | [], _ => rfl
  | [_], h => exact absurd rfl h
  | _ :: _ :: _, _ => rfl
theorem at0 {x : V} {xs : List V} : atI (x :: xs) 0 = some x := atI_nat (j := 0) rfl
theorem at1 {x y : V} {xs : List V} : atI (x :: y :: xs) 1 = some y := atI_nat (j := 1) rfl
theorem at2 {x y z : V} {xs : List V} : atI (x :: y :: z :: xs) 2 = some z := atI_nat (j := 2) rfl
theorem int_eq (n m : Nat) : (decide (V.int (n : Int) = V.int (m : Int))) = decide (n = m) := by
  by_cases h : n = m
  · subst h; simp
  · rw [decide_eq_false h, decide_eq_false]
    intro q; injection q with q; omega
theorem int_ne (n m : Nat) : (!decide (V.int (n : Int) = V.int (m : Int))) = !decide (n = m) := by rw [int_eq]
theorem and_len {f : List PyData → Bool} {ds : List PyData} {n : Nat} (h : ¬ ds.length = n → f ds = false) : V.bl (decide (ds.length = n) && f ds) = .bl (f ds) := by
  by_cases hn : ds.length = n
  · rw [decide_eq_true hn]; rfl
  · rw [h hn, Bool.and_false]
section
variable {K : PySem.W.Frag} {H : Hp} {σ : L2.St} {a : Addr} {xs : List V} {ds : List PyData} {t : TE}
/-- len(parts) == n and .. -/
theorem ev_lenAnd {n : Nat} {f : List PyData → Bool} {i : Nat} (h0 : σ[i]? = some (some (.ref a))) (hx : SqL K H a xs) (ha : DpAll K H xs ds) (hf : ¬ ds.length = n → f ds = false) (h : ds.length = n → Ev t σ H (.bl (f ds))) :
    Ev (tAndV (tOp rEq (tCB (rLenS K) (tCons (tVar i) tNil)) (tC (.int (n : Nat)))) t) σ H (.bl (f ds)) := by
  have hn := dpAll_len ha
  refine ev_is (ev_andV (a := decide (ds.length = n)) (b := f ds) (ev_is (ev_op (ev_cb (ea_cons (ev_var h0) ea_nil) (rc_lenL hx)) ev_c (rv_eq rfl)) (by rw [int_eq, hn])) fun hs => h (of_decide_eq_true hs)) (and_len hf)
end

end Nt

namespace Nt
open PySem PySem.Spec PyProof.Rows L2 Evl
section
variable {P : Program} {w : World} {K : PySem.W.Frag} {mg : Str → Option Value} {base : Heap}
theorem ok_is_condition (T : Txt w K mg) : Def P w K mg base CX0 4 "is_condition" ["thing"] (sp1 K fun d => .bl (isCond d)) := by
  have D_is_term := ok_is_term (P := P) (base := base) T
  have D_is_one_of := ok_is_one_of (P := P) (base := base) T
  refine mkDef T.F_is_condition T.g_is_condition sc_is_condition (fun _ _ _ _ _ _ us hl => match us, hl with | [_], _ => rfl) (fun vs H Q E h => ?_) (fun cdv A outer s H vs Q E hr h => ?_)
  · obtain ⟨v, d, rfl, _⟩ := h; rfl
  · obtain ⟨v, d, rfl, hd, k⟩ := h
    have k : ∀ H', Same H H' → Q (.bl (isCond d)) H' := k
    refine ⟨_, (PSs.nox (pss_cons (ps_if (PW.pt (pw_or (pt_not (pt_val (pe_callB call_isi (by rfl) T.m_isinstance boot_isinstance (pa_cons (pv 0) (pa_cons (pe_bltn (v := .ty "tuple") rfl T.m_tuple boot_tuple rfl) pa_nil))))) (pw_or1 (pt_cmpR op_ne (pe_callB call_len_seq (by rfl) T.m_len boot_len (pa_cons (pv 0) pa_nil)) pe_int (nomark _))))) (pss_one (ps_ret pe_bl)) pss_nil)
      (pss_cons (ps_asg (pv 0) (pg_tup (n := 3) rfl (pgs_cons (pg_name (i := 1) sc_is_condition.nd rfl (Or.inl rfl)) (pgs_cons (pg_name (i := 2) sc_is_condition.nd rfl (Or.inl rfl)) (pgs_cons (pg_name (i := 3) sc_is_condition.nd rfl (Or.inl rfl)) pgs_nil)))))
      (pss_one (ps_ret (pe_and (pe_callD D_is_one_of (hr.mono (by omega)) rfl pass0 (pa_cons (pv 1) (pa_cons (pe_gref rfl T.g_VARIABLES) pa_nil))) (pe_and (pe_callD D_is_one_of (hr.mono (by omega)) rfl pass0 (pa_cons (pv 2) (pa_cons (pe_gref rfl T.g_COMPARISONS) pa_nil))) (pe_one (pe_callD D_is_term (hr.mono (by omega)) rfl pass0 (pa_cons (pv 3) pa_nil)))))))))), ?_⟩
    cases ht : isTup d with
    | false =>
      refine q_when (b := true) (et_or (b := true) (et_not (et_B (ev_cb (ea_cons (ev_var rfl) (ea_cons ev_c ea_nil)) (isi_d hd ((kit_tup d).trans (congrArg some ht)))))) fun q => by cases q) (fun _ H1 e => s_ret ev_c fun H2 e2 => ?_) fun q => by cases q
      have := k H2 (e.trans e2)
      rw [isCond_not ht] at this
      exact this
    | true =>
      obtain ⟨a, xs, ds, rfl, rfl, hx, ha⟩ := dp_tupI hd ht
      have hn := dpAll_len ha
      refine q_when (et_or (b := !decide (xs.length = 3)) (et_not (et_B (ev_cb (ea_cons (ev_var rfl) (ea_cons ev_c ea_nil)) (isi_d hd (kit_tup _))))) fun _ => et_is (et_test (ev_op (ev_cb (ea_cons (ev_var rfl) ea_nil) (rc_lenT hx)) ev_c (rv_ne rfl))) (int_ne xs.length 3)) ?_ ?_
      · intro hb H1 e
        have h3 : ¬ ds.length = 3 := fun q => by rw [← hn] at q; rw [q] at hb; cases hb
        refine s_ret ev_c fun H2 e2 => ?_
        have := k H2 (e.trans e2)
        rw [isCond_len h3] at this
        exact this
      · intro hb H1 e
        have h3 : xs.length = 3 := by
          by_cases q : xs.length = 3
          · exact q
          · rw [decide_eq_false q] at hb; cases hb
        obtain ⟨x, y, z, rfl⟩ := len3 h3
        obtain ⟨dx, dy, dz, rfl, hx1, hx2, hx3⟩ := dp3 ha
        refine ⟨_, rfl, a, _, rfl, ex_t e hx, rfl, _, _, rfl, _, _, rfl, _, _, rfl, rfl, ?_⟩
        exact s_ret (ev_andV (ev_call (ea_cons (ev_var rfl) (ea_cons ev_c ea_nil)) (spvOne (ns := vars) (dp_mono e hx1) (T.t_VARIABLES _))) fun _ =>
            ev_andV (ev_call (ea_cons (ev_var rfl) (ea_cons ev_c ea_nil)) (spvOne (ns := comps) (dp_mono e hx2) (T.t_COMPARISONS _))) fun _ => ev_call (ea_cons (ev_var rfl) ea_nil) (spv1 (dp_mono e hx3))) fun H2 e2 => k H2 (e.trans e2)
theorem ok_is_set (T : Txt w K mg) : Def P w K mg base CX0 3 "is_set" ["parts"] (spL K pSet) := by
  have D_is_value := ok_is_value (P := P) (base := base) T
  have D_is_one_of := ok_is_one_of (P := P) (base := base) T
  refine mkDef T.F_is_set T.g_is_set sc_is_set (fun _ _ _ _ _ _ us hl => match us, hl with | [_], _ => rfl) (fun vs H Q E h => ?_) (fun cdv A outer s H vs Q E hr h => ?_)
  · obtain ⟨a, xs, ds, rfl, _⟩ := h; rfl
  · obtain ⟨a, xs, ds, rfl, hx, ha, k⟩ := h
    refine ⟨_, (PSs.nox (pss_one (ps_ret (pe_and (pe_cmpR op_eq (pe_callB call_len_seq (by rfl) T.m_len boot_len (pa_cons (pv 0) pa_nil)) pe_int (nomark _)) (pe_and (pe_callD D_is_one_of (hr.mono (by omega)) rfl pass0 (pa_cons (pe_ix ix_list (pv 0) pe_int (fun _ _ => rfl)) (pa_cons (pe_gref rfl T.g_VARIABLES) pa_nil))) (pe_one (pe_callD D_is_value (hr.mono (by omega)) rfl pass0 (pa_cons (pe_ix ix_list (pv 0) pe_int (fun _ _ => rfl)) pa_nil)))))))), ?_⟩
    refine s_ret (ev_lenAnd rfl hx ha pSet_len fun hn => ?_) k
    obtain ⟨x, y, rfl⟩ := len2 ((dpAll_len ha).trans hn)
    obtain ⟨dx, dy, rfl, h1, h2⟩ := dp2 ha
    exact ev_andV (ev_call (ea_cons (ev_op (ev_var rfl) ev_c (rv_ixL hx at0)) (ea_cons ev_c ea_nil)) (spvOne (ns := vars) h1 (T.t_VARIABLES _))) fun _ => ev_call (ea_cons (ev_op (ev_var rfl) ev_c (rv_ixL hx at1)) ea_nil) (spv1 h2)
theorem ok_is_add (T : Txt w K mg) : Def P w K mg base CX0 4 "is_add" ["parts"] (spL K pAdd) := by
  have D_is_term := ok_is_term (P := P) (base := base) T
  have D_is_one_of := ok_is_one_of (P := P) (base := base) T
  refine mkDef T.F_is_add T.g_is_add sc_is_add (fun _ _ _ _ _ _ us hl => match us, hl with | [_], _ => rfl) (fun vs H Q E h => ?_) (fun cdv A outer s H vs Q E hr h => ?_)
  · obtain ⟨a, xs, ds, rfl, _⟩ := h; rfl
  · obtain ⟨a, xs, ds, rfl, hx, ha, k⟩ := h
    refine ⟨_, (PSs.nox (pss_one (ps_ret (pe_and (pe_cmpR op_eq (pe_callB call_len_seq (by rfl) T.m_len boot_len (pa_cons (pv 0) pa_nil)) pe_int (nomark _)) (pe_and (pe_callD D_is_one_of (hr.mono (by omega)) rfl pass0 (pa_cons (pe_ix ix_list (pv 0) pe_int (fun _ _ => rfl)) (pa_cons (pe_gref rfl T.g_VARIABLES) pa_nil))) (pe_one (pe_callD D_is_term (hr.mono (by omega)) rfl pass0 (pa_cons (pe_ix ix_list (pv 0) pe_int (fun _ _ => rfl)) pa_nil)))))))), ?_⟩
    refine s_ret (ev_lenAnd rfl hx ha pAdd_len fun hn => ?_) k
    obtain ⟨x, y, rfl⟩ := len2 ((dpAll_len ha).trans hn)
    obtain ⟨dx, dy, rfl, h1, h2⟩ := dp2 ha
    exact ev_andV (ev_call (ea_cons (ev_op (ev_var rfl) ev_c (rv_ixL hx at0)) (ea_cons ev_c ea_nil)) (spvOne (ns := vars) h1 (T.t_VARIABLES _))) fun _ => ev_call (ea_cons (ev_op (ev_var rfl) ev_c (rv_ixL hx at1)) ea_nil) (spv1 h2)
theorem ok_is_wait (T : Txt w K mg) : Def P w K mg base CX0 2 "is_wait" ["parts"] (spL K pWait) := by
  have D_is_integer := ok_is_integer (P := P) (base := base) T
  refine mkDef T.F_is_wait T.g_is_wait sc_is_wait (fun _ _ _ _ _ _ us hl => match us, hl with | [_], _ => rfl) (fun vs H Q E h => ?_) (fun cdv A outer s H vs Q E hr h => ?_)
  · obtain ⟨a, xs, ds, rfl, _⟩ := h; rfl
  · obtain ⟨a, xs, ds, rfl, hx, ha, k⟩ := h
    refine ⟨_, (PSs.nox (pss_one (ps_ret (pe_and (pe_cmpR op_eq (pe_callB call_len_seq (by rfl) T.m_len boot_len (pa_cons (pv 0) pa_nil)) pe_int (nomark _)) (pe_and (pe_callD D_is_integer (hr.mono (by omega)) rfl pass0 (pa_cons (pe_ix ix_list (pv 0) pe_int (fun _ _ => rfl)) pa_nil)) (pe_one (pe_chain op_le op_le pe_int (pe_ix ix_list (pv 0) pe_int (fun _ _ => rfl)) (pe_gint rfl T.c_LONGEST_WAIT)))))))), ?_⟩
    refine s_ret (ev_lenAnd rfl hx ha pWait_len fun hn => ?_) k
    obtain ⟨x, rfl⟩ := len1 ((dpAll_len ha).trans hn)
    obtain ⟨dx, rfl, h1⟩ := dp1 ha
    refine ev_is (ev_andV (b := pWait [dx]) (ev_call (ea_cons (ev_op (ev_var rfl) ev_c (rv_ixL hx at0)) ea_nil) (spv1 h1)) fun hs => ?_) ?_
    · cases h1 with
      | int i => exact ev_chain ev_c (ev_op (ev_var rfl) ev_c (rv_ixL hx at0)) rv_le (fun _ => ev_c) (fun _ => rv_le)
      | _ => cases hs
    · cases dx <;> rfl
theorem ok_is_answer (T : Txt w K mg) : Def P w K mg base CX0 2 "is_answer" ["parts"] (spL K pAns) := by
  have D_is_integer := ok_is_integer (P := P) (base := base) T
  refine mkDef T.F_is_answer T.g_is_answer sc_is_answer (fun _ _ _ _ _ _ us hl => match us, hl with | [_], _ => rfl) (fun vs H Q E h => ?_) (fun cdv A outer s H vs Q E hr h => ?_)
  · obtain ⟨a, xs, ds, rfl, _⟩ := h; rfl
  · obtain ⟨a, xs, ds, rfl, hx, ha, k⟩ := h
    refine ⟨_, (PSs.nox (pss_one (ps_ret (pe_and (pe_cmpR op_eq (pe_callB call_len_seq (by rfl) T.m_len boot_len (pa_cons (pv 0) pa_nil)) pe_int (nomark _)) (pe_and (pe_callD D_is_integer (hr.mono (by omega)) rfl pass0 (pa_cons (pe_ix ix_list (pv 0) pe_int (fun _ _ => rfl)) pa_nil)) (pe_one (pe_chain op_le op_le pe_int (pe_ix ix_list (pv 0) pe_int (fun _ _ => rfl)) pe_int))))))), ?_⟩
    refine s_ret (ev_lenAnd rfl hx ha pAns_len fun hn => ?_) k
    obtain ⟨x, rfl⟩ := len1 ((dpAll_len ha).trans hn)
    obtain ⟨dx, rfl, h1⟩ := dp1 ha
    refine ev_is (ev_andV (b := pAns [dx]) (ev_call (ea_cons (ev_op (ev_var rfl) ev_c (rv_ixL hx at0)) ea_nil) (spv1 h1)) fun hs => ?_) ?_
    · cases h1 with
      | int i => exact ev_chain ev_c (ev_op (ev_var rfl) ev_c (rv_ixL hx at0)) rv_le (fun _ => ev_c) (fun _ => rv_le)
      | _ => cases hs
    · cases dx <;> rfl
theorem ok_is_one_term (T : Txt w K mg) : Def P w K mg base CX0 4 "is_one_term" ["parts"] (spL K pTerm) := by
  have D_is_term := ok_is_term (P := P) (base := base) T
  refine mkDef T.F_is_one_term T.g_is_one_term sc_is_one_term (fun _ _ _ _ _ _ us hl => match us, hl with | [_], _ => rfl) (fun vs H Q E h => ?_) (fun cdv A outer s H vs Q E hr h => ?_)
  · obtain ⟨a, xs, ds, rfl, _⟩ := h; rfl
  · obtain ⟨a, xs, ds, rfl, hx, ha, k⟩ := h
    refine ⟨_, (PSs.nox (pss_one (ps_ret (pe_and (pe_cmpR op_eq (pe_callB call_len_seq (by rfl) T.m_len boot_len (pa_cons (pv 0) pa_nil)) pe_int (nomark _)) (pe_one (pe_callD D_is_term (hr.mono (by omega)) rfl pass0 (pa_cons (pe_ix ix_list (pv 0) pe_int (fun _ _ => rfl)) pa_nil))))))), ?_⟩
    refine s_ret (ev_lenAnd rfl hx ha pTerm_len fun hn => ?_) k
    obtain ⟨x, rfl⟩ := len1 ((dpAll_len ha).trans hn)
    obtain ⟨dx, rfl, h1⟩ := dp1 ha
    exact ev_call (ea_cons (ev_op (ev_var rfl) ev_c (rv_ixL hx at0)) ea_nil) (spv1 h1)
theorem ok_is_ask (T : Txt w K mg) : Def P w K mg base CX0 4 "is_ask" ["parts"] (spL K pAsk) := by
  have D_is_term := ok_is_term (P := P) (base := base) T
  have D_is_one_of := ok_is_one_of (P := P) (base := base) T
  refine mkDef T.F_is_ask T.g_is_ask sc_is_ask (fun _ _ _ _ _ _ us hl => match us, hl with | [_], _ => rfl) (fun vs H Q E h => ?_) (fun cdv A outer s H vs Q E hr h => ?_)
  · obtain ⟨a, xs, ds, rfl, _⟩ := h; rfl
  · obtain ⟨a, xs, ds, rfl, hx, ha, k⟩ := h
    have hl := dpAll_len ha
    refine ⟨_, (PSs.nox (pss_cons (ps_if (pt_cmpR op_ne (pe_callB call_len_seq (by rfl) T.m_len boot_len (pa_cons (pv 0) pa_nil)) pe_int (nomark _)) (pss_one (ps_ret pe_bl)) pss_nil)
      (pss_one (ps_ret (pe_and (pe_callD D_is_one_of (hr.mono (by omega)) rfl pass0 (pa_cons (pe_ix ix_list (pv 0) pe_int (fun _ _ => rfl)) (pa_cons (pe_gref rfl T.g_DIRECTIONS) pa_nil))) (pe_and (pe_callD D_is_term (hr.mono (by omega)) rfl pass0 (pa_cons (pe_ix ix_list (pv 0) pe_int (fun _ _ => rfl)) pa_nil)) (pe_one (pe_callD D_is_one_of (hr.mono (by omega)) rfl pass0 (pa_cons (pe_ix ix_list (pv 0) pe_int (fun _ _ => rfl)) (pa_cons (pe_gref rfl T.g_VARIABLES) pa_nil)))))))))), ?_⟩
    refine q_when (et_is (et_test (ev_op (ev_cb (ea_cons (ev_var rfl) ea_nil) (rc_lenL hx)) ev_c (rv_ne rfl))) (int_ne xs.length 3)) ?_ ?_
    · intro hb H1 e
      have h3 : ¬ ds.length = 3 := fun q => by rw [← hl] at q; rw [q] at hb; cases hb
      refine s_ret ev_c fun H2 e2 => ?_
      have := k H2 (e.trans e2)
      rw [pAsk_len h3] at this
      exact this
    · intro hb H1 e
      have h3 : xs.length = 3 := by
        by_cases q : xs.length = 3
        · exact q
        · rw [decide_eq_false q] at hb; cases hb
      obtain ⟨x, y, z, rfl⟩ := len3 h3
      obtain ⟨dx, dy, dz, rfl, h1, h2, h3⟩ := dp3 ha
      have hx := ex_l e hx
      exact s_ret (ev_andV (ev_call (ea_cons (ev_op (ev_var rfl) ev_c (rv_ixL hx at0)) (ea_cons ev_c ea_nil)) (spvOne (ns := dirs) (dp_mono e h1) (T.t_DIRECTIONS _))) fun _ =>
        ev_andV (ev_call (ea_cons (ev_op (ev_var rfl) ev_c (rv_ixL hx at1)) ea_nil) (spv1 (dp_mono e h2))) fun _ => ev_call (ea_cons (ev_op (ev_var rfl) ev_c (rv_ixL hx at2)) (ea_cons ev_c ea_nil)) (spvOne (ns := vars) (dp_mono e h3) (T.t_VARIABLES _))) fun H2 e2 => k H2 (e.trans e2)
end

end Nt

namespace Nt
open PySem PySem.Spec PyProof.Rows L2 Evl
/-! ### a call of a def that a slot holds -/
def tCallH (A : Addr → Sp → Prop) (i : Nat) (t : TA) : TE := fun σ H Q => ∃ f sp, σ[i]? = some (some (.ref f)) ∧ A f sp ∧ t σ H fun vs H1 => sp vs H1 Q E0
theorem pe_callH {X : Cx} {k i : Nat} {x : Str} {p pos : Pos} {e : Expr} {es : List Expr} {t : TA} {A : Addr → Sp → Prop} (hA : ∀ f sp, A f sp → Held X.prog X.w X.K X.mg X.base k f sp) (hr : Room k X.A) (hN : X.N[i]? = some x) (hv : Vis X.env.scope x) (ha : PA X (e :: es) t)
    (hdb : (x == ("__debug__" : Str)) = false := by decide) (hcd : (x == ("__classdict__" : Str)) = false := by decide)
    (he : starEach (e :: es) X.env = (false, eval e X.env) :: starEach es X.env := by rfl) (hpl : (backTo pos (starEach es X.env)).any (·.1) = false := by rfl) : PE X (.Call (.Name x p) (e :: es) [] pos) (tCallH A i t) := by
  refine ⟨fun pins s σ H Q I h => ?_⟩
  obtain ⟨f, sp, hs, hS, ht⟩ := h
  obtain ⟨fd, ps, F, hk, hb⟩ := (hA f sp hS).ex
  refine (pe_callL (i := i) (f := f) (sp := sp) (dvs := []) (E := fun _ _ _ => False) F hr hN hv hk hb .nil (fun _ _ _ _ _ _ _ z => z.elim) ha hdb hcd he hpl).run pins s σ H Q I ⟨hs, ?_⟩
  have e0 : (fun (vs : List V) (H1 : Hp) => sp (vs ++ []) H1 Q (fun _ _ _ => False)) = fun vs H1 => sp vs H1 Q (fun _ _ _ => False) := by
    funext vs H1
    rw [List.append_nil]
  show t σ H (fun vs H1 => sp (vs ++ []) H1 Q (fun _ _ _ => False))
  rw [e0]
  exact ht
theorem Def.held {P : Program} {w : World} {K : PySem.W.Frag} {mg : Str → Option Value} {base : Heap} {k : Nat} {x : Str} {ps : List Str} {sp : Sp} {f : Addr} (D : Def P w K mg base CX0 k x ps sp) (g : mg x = some (.ref f)) : Held P w K mg base k f sp := by
  obtain ⟨f', fd, h1, h2, h3, h4⟩ := D.ex
  have e : f = f' := by
    have := g.symm.trans h1
    injection this with this
    injection this
  subst e
  exact ⟨fd, ps, h4, h2, h3⟩
theorem ev_callH {A : Addr → Sp → Prop} {i : Nat} {t : TA} {σ : L2.St} {H : Hp} {f : Addr} {sp : Sp} {vs : List V} {z : V} (h0 : σ[i]? = some (some (.ref f))) (hA : A f sp) (ha : EvA t σ H vs) (hs : SpV sp vs H z) : Ev (tCallH A i t) σ H z := fun H1 e Q q =>
  ⟨f, sp, h0, hA, ha H1 e _ fun H2 e2 => hs H2 (e.trans e2) _ (fun H3 e3 => q H3 (e2.trans e3)) E0⟩
/-! ### sizes -/
inductive Sm : PyData → Prop
  | none : Sm .none
  | bool (b : Bool) : Sm (.bool b)
  | int (i : Int) : Sm (.int i)
  | str (s : Str) : Sm (.str s)
  | list {xs : List PyData} (h : xs.length ≤ 20000) (a : ∀ x, x ∈ xs → Sm x) : Sm (.list xs)
  | tuple {xs : List PyData} (h : xs.length ≤ 20000) (a : ∀ x, x ∈ xs → Sm x) : Sm (.tuple xs)
theorem Sm.tupI {xs : List PyData} (h : Sm (.tuple xs)) : xs.length ≤ 20000 ∧ ∀ x, x ∈ xs → Sm x := by
  cases h with
  | tuple h a => exact ⟨h, a⟩
/-! ### the counts -/
def sumO (l : List (Option Int)) : Option Int := if l.any Option.isNone then none else some (l.map (·.getD 0)).sum
def wordsT : List Str := ["set", "add", "wait", "ask", "answer"]
def wordsC : List Str := ["set", "add", "wait", "grow", "list"]
def words (kind : Str) : List Str := if kind = "teller" then wordsT else wordsC
def chk (z : Str) : List PyData → Bool := if z = "set" then pSet else if z = "add" then pAdd else if z = "wait" then pWait else if z = "ask" then pAsk else if z = "answer" then pAns else pTerm
def nBod (z : Str) : Nat := if z = "if" then 2 else 1
def isBlk (z : Str) : Bool := z == "if" || z == "while"
def cntBlock (cb : PyData → Option Int) (z : Str) (parts : List PyData) : Option Int :=
  if (parts.drop 1).length = nBod z ∧ isCond (parts.getD 0 .none) = true then (sumO ((parts.drop 1).map cb)).map (1 + ·) else none
def cntStmt (kind : Str) (cb : PyData → Option Int) : PyData → Option Int
  | .tuple (.str z :: parts) => if isBlk z then cntBlock cb z parts else if (words kind).contains z && chk z parts then some 1 else none
  | _ => none
def cntBody (kind : Str) : Nat → PyData → Option Int
  | 0, .tuple [] => some 0
  | f + 1, .tuple ss => sumO (ss.map (cntStmt kind (cntBody kind f)))
  | _, _ => none
def cV : Option Int → V
  | none => .non
  | some n => .int n
theorem cV_flat (os : List (Option Int)) : (os.map cV).all flatV = true := by
  rw [List.all_map]
  refine List.all_eq_true.mpr fun o _ => ?_
  cases o <;> rfl
theorem cV_none (os : List (Option Int)) : inV .non (os.map cV) = os.any Option.isNone := by
  unfold inV
  rw [List.any_map]
  congr 1
  funext o
  cases o <;> rfl
theorem cV_some {os : List (Option Int)} (h : os.any Option.isNone = false) : os.map cV = (os.map (·.getD 0)).map V.int := by
  induction os with
  | nil => rfl
  | cons o os ih =>
    rw [List.any_cons, Bool.or_eq_false_iff] at h
    cases o with
    | none => cases h.1
    | some n => rw [List.map_cons, List.map_cons, List.map_cons, ih h.2]; rfl
def okKind (kind : Str) : Prop := kind = "teller" ∨ kind = "collector"
def spStm (K : PySem.W.Frag) (f : Nat) : Sp := fun vs H Q _ => ∃ (kind : Str) (v : V) (d : PyData), okKind kind ∧ vs = [.str kind, v, .int (4 - (f : Int))] ∧ Dp K H v d ∧ Sm d ∧ ∀ H', Same H H' → Q (cV (cntStmt kind (cntBody kind f) d)) H'
def spBod (K : PySem.W.Frag) (f : Nat) : Sp := fun vs H Q _ => ∃ (kind : Str) (v : V) (d : PyData), okKind kind ∧ vs = [.str kind, v, .int (5 - (f : Int))] ∧ Dp K H v d ∧ Sm d ∧ ∀ H', Same H H' → Q (cV (cntBody kind f d)) H'
def spBlk (K : PySem.W.Frag) (f : Nat) : Sp := fun vs H Q _ => ∃ (kind z : Str) (a : Addr) (xs : List V) (ds : List PyData), okKind kind ∧ isBlk z = true ∧ vs = [.str kind, .str z, .ref a, .int (4 - (f : Int))] ∧ SqL K H a xs ∧ DpAll K H xs ds ∧ ds.length ≤ 20000 ∧ (∀ d, d ∈ ds → Sm d) ∧ ∀ H', Same H H' → Q (cV (cntBlock (cntBody kind f) z ds)) H'
theorem spvStm {K : PySem.W.Frag} {f : Nat} {kind : Str} {v : V} {d : PyData} {H : Hp} (hk : okKind kind) (h : Dp K H v d) (hs : Sm d) : SpV (spStm K f) [.str kind, v, .int (4 - (f : Int))] H (cV (cntStmt kind (cntBody kind f) d)) := fun H1 e Q q E => ⟨kind, v, d, hk, rfl, dp_mono e h, hs, fun H' e' => q H' e'⟩
theorem spvBod {K : PySem.W.Frag} {f : Nat} {kind : Str} {v : V} {d : PyData} {H : Hp} (hk : okKind kind) (h : Dp K H v d) (hs : Sm d) : SpV (spBod K f) [.str kind, v, .int (5 - (f : Int))] H (cV (cntBody kind f d)) := fun H1 e Q q E => ⟨kind, v, d, hk, rfl, dp_mono e h, hs, fun H' e' => q H' e'⟩
theorem spvBlk {K : PySem.W.Frag} {f : Nat} {kind z : Str} {a : Addr} {xs : List V} {ds : List PyData} {H : Hp} (hk : okKind kind) (hz : isBlk z = true) (hx : SqL K H a xs) (h : DpAll K H xs ds) (hl : ds.length ≤ 20000) (hs : ∀ d, d ∈ ds → Sm d) :
    SpV (spBlk K f) [.str kind, .str z, .ref a, .int (4 - (f : Int))] H (cV (cntBlock (cntBody kind f) z ds)) := fun H1 e Q q E => ⟨kind, z, a, xs, ds, hk, hz, rfl, ex_l e hx, dpAll_mono e h, hl, hs, fun H' e' => q H' e'⟩
def bodTab : List (Str × V) := [("if", .int 2), ("while", .int 1)]
theorem bod_at {z : Str} (h : isBlk z = true) : bodTab.lookup z = some (.int (nBod z : Nat)) := by
  unfold isBlk at h
  rcases Bool.or_eq_true_iff.mp h with q | q
  · rw [eq_of_beq q]; decide +kernel
  · rw [eq_of_beq q]; decide +kernel
theorem bod_is (z : Str) : (bodTab.lookup z).isSome = isBlk z := by
  unfold bodTab isBlk
  rw [List.lookup_cons, List.lookup_cons, List.lookup_nil]
  cases (z == "if") <;> cases (z == "while") <;> rfl
/-- None if None in counts else .. -/
theorem ev_counts {K : PySem.W.Frag} {σ : L2.St} {H : Hp} {i : Nat} {p : Addr} {os : List (Option Int)} {te : TE} {g : Int → Int} (h0 : σ[i]? = some (some (.ref p))) (hp : SqL K H p (os.map cV))
    (h : os.any Option.isNone = false → Ev te σ H (.int (g (os.map (·.getD 0)).sum))) : Ev (tIf (tTest (tOp (rIn K false) (tC .non) (tVar i))) (tC .non) te) σ H (cV ((sumO os).map g)) := by
  refine ev_if (b := os.any Option.isNone) (et_is (et_test (ev_op ev_c (ev_var h0) (rv_isL hp rfl (cV_flat os)))) (cV_none os)) (fun hb => ev_is ev_c ?_) (fun hb => ev_is (h hb) ?_)
  · unfold sumO; rw [if_pos hb]; rfl
  · unfold sumO; rw [if_neg (by rw [hb]; exact Bool.false_ne_true)]; rfl

end Nt

namespace Nt
open PySem PySem.Spec PyProof.Rows L2 Evl
theorem cut1 (xs : List V) : cutV xs (some 1) none = xs.drop 1 := by
  unfold cutV
  have h1 : HT.sIx xs.length 0 (some 1) = min 1 xs.length := HT.sIx_nat xs.length 0 1
  rw [h1, HT.sIx_none]
  cases xs with
  | nil => rfl
  | cons x xs =>
    have h2 : min 1 (x :: xs).length = 1 := by rw [List.length_cons]; omega
    rw [h2, List.take_of_length_le]
    rw [List.length_drop]; omega
section
variable {P : Program} {w : World} {K : PySem.W.Frag} {mg : Str → Option Value} {base : Heap}
theorem ok_count_block (T : Txt w K mg) (f k : Nat) (hk4 : 4 ≤ k) (D_count_body : Def P w K mg base CX0 k "count_body" ["kind", "thing", "depth"] (spBod K f)) : Def P w K mg base CX0 (k + 1) "count_block" ["kind", "word", "parts", "depth"] (spBlk K f) := by
  have D_is_condition := (ok_is_condition (P := P) (base := base) T)
  refine mkDef T.F_count_block T.g_count_block sc_count_block (fun _ _ _ _ _ _ us hl => match us, hl with | [_, _, _, _], _ => rfl) (fun vs H Q E h => ?_) (fun cdv A outer s H vs Q E hr h => ?_)
  · obtain ⟨_, _, _, _, _, _, _, rfl, _⟩ := h; rfl
  · obtain ⟨kind, z, a, xs, ds, hkd, hz, rfl, hx, ha, hl, hs, kk⟩ := h
    have hn := dpAll_len ha
    refine ⟨_, (PSs.nox (pss_cons (ps_set (i := 4) sc_count_block.nd rfl (Or.inl rfl) (pe_slice sl_list (pv 2) (po_some pe_int) po_none))
      (pss_cons (ps_if (PW.pt (pw_or (pt_cmpR op_ne (pe_callB call_len_seq (by rfl) T.m_len boot_len (pa_cons (pv 4) pa_nil)) (pe_ix (ix_tab T.d_BODIES) (pe_gref rfl T.g_BODIES) (pv 1) (fun _ _ => rfl)) (nomark _)) (pw_or1 (pt_not (pt_val (pe_callD D_is_condition (hr.mono (by omega)) rfl pass0 (pa_cons (pe_ix ix_list (pv 2) pe_int (fun _ _ => rfl)) pa_nil))))))) (pss_one (ps_ret pe_non)) pss_nil)
      (pss_cons (ps_setLc (i := 5) (own := [("body", 6)]) (by rfl) sc_count_block.nd rfl rfl (sw_true rfl rfl rfl (by decide +kernel)) (pi_list (pv 4)) (blkOk_by (own := [("body", 6)]) (N := N_count_block) (sc := defScope s_count_block) (by decide +kernel)) (fun _ _ _ _ _ => (pg_name (i := 6) sc_count_block.nd rfl (Or.inl rfl))) (fun _ _ _ _ _ => pts_nil) (fun _ _ _ _ _ => (pe_callD D_count_body (hr.mono (by omega)) rfl pass0 (pa_cons (pv 0) (pa_cons (pv 6) (pa_cons (pe_op op_add (pv 3) pe_int) pa_nil))))))
      (pss_one (ps_ret (pe_ifExp (pt_cmpR op_in_seq pe_non (pv 5) (by rfl)) pe_non (pe_op op_add pe_int (pe_callB (cr_sum rfl) (by rfl) T.m_sum boot_sum (pa_cons (pv 5) pa_nil)))))))))), ?_⟩
    refine q_asgL (el_sl (ev_var rfl) (eo_some ev_c) eo_none hx) fun p H1 hp e hp1 => ?_
    rw [cut1] at hp1
    have hb := dpAll_drop 1 (dpAll_mono e ha)
    have hpl : (xs.drop 1).length = (ds.drop 1).length := dpAll_len hb
    have hcmp : ∀ H', Ex H1 H' → Ev (tOp rNe (tCB (rLenS K) (tCons (tVar 4) tNil)) (tOp (rIxTab (He.ga K "BODIES") bodTab) (tC (.ref (He.ga K "BODIES"))) (tVar 1))) [some (.str kind), some (.str z), some (.ref a), some (.int (4 - (f : Int))), some (.ref p), none, none] H' (.bl (!decide ((ds.drop 1).length = nBod z))) := fun H' e' =>
      ev_is (ev_op (ev_cb (ea_cons (ev_var rfl) ea_nil) (rc_lenL (sq_of (e' _ _ hp1)))) (ev_op ev_c (ev_var rfl) (rv_ixTab (bod_at hz))) (rv_ne rfl)) (by rw [int_ne, hpl])
    by_cases hlen : (ds.drop 1).length = nBod z
    · have hnb : 1 ≤ nBod z := by unfold nBod; split <;> omega
      obtain ⟨x0, xr, rfl⟩ : ∃ x0 xr, xs = x0 :: xr := by
        cases xs with
        | nil => rw [List.length_drop, ← hn] at hlen; simp at hlen; omega
        | cons x0 xr => exact ⟨x0, xr, rfl⟩
      obtain ⟨d0, hd0, hx0⟩ := dpAll_get (i := 0) (v := x0) ha rfl
      have hg : ds.getD 0 .none = d0 := by rw [List.getD_eq_getElem?_getD, hd0]; rfl
      refine q_when (b := !isCond d0) (et_is (et_or (b := !isCond d0) (et_test (hcmp H1 (Ex.refl _))) fun _ => et_not (et_B (ev_call (ea_cons (ev_op (ev_var rfl) ev_c (rv_ixL (ex_l e hx) at0)) ea_nil) (spv1 (dp_mono e hx0))))) ?_) ?_ ?_
      · rw [decide_eq_true hlen]; rfl
      · intro hb2 H2 e2
        refine s_ret ev_c fun H3 e3 => ?_
        have := kk H3 (e.trans (e2.trans e3))
        unfold cntBlock at this
        rw [if_neg (by rw [hg]; intro q; rw [q.2] at hb2; cases hb2)] at this
        exact this
      · intro hb2 H2 e2
        have hc : isCond d0 = true := by
          cases q : isCond d0 with
          | true => rfl
          | false => rw [q] at hb2; cases hb2
        have hsq : SqL K H2 p (List.drop 1 (x0 :: xr)) := sq_of (e2 _ _ hp1)
        refine q_asgL (el_mapL (ys := ((ds.drop 1).map (cntBody kind f)).map cV) (ev_var rfl) hsq (by rw [List.length_map, List.length_map, hpl]) (by rw [hpl, List.length_drop]; omega) (fun x => rfl) fun i x y H3 e3 hi hy => ?_) fun q H3 hq e3 hq3 => ?_
        · obtain ⟨d, hd, hdx⟩ := dpAll_get (dpAll_mono (e2.trans e3) hb) hi
          rw [List.getElem?_map, List.getElem?_map, hd] at hy
          cases hy
          have ed : (4 - (f : Int)) + 1 = 5 - (f : Int) := by omega
          refine ev_call (ea_cons (ev_var rfl) (ea_cons (ev_var rfl) (ea_cons (ev_is (ev_op (ev_var rfl) ev_c rv_I0) (congrArg V.int ed)) ea_nil))) (spvBod hkd hdx (hs d ?_))
          exact List.mem_of_mem_drop (List.mem_of_getElem? hd)
        · refine s_ret (ev_counts (g := fun s => 1 + s) rfl (sq_of hq3) fun hno => ?_) fun H4 e4 => ?_
          · rw [cV_some hno] at hq3
            exact ev_op ev_c (ev_cb (ea_cons (ev_var rfl) ea_nil) (rc_sum (sq_of hq3))) rv_I0
          · have := kk H4 (e.trans (e2.trans (e3.trans e4)))
            unfold cntBlock at this
            rw [if_pos ⟨hlen, by rw [hg]; exact hc⟩] at this
            exact this
    · refine q_when (b := true) (et_or (b := true) (et_is (et_test (hcmp H1 (Ex.refl _))) (b := true) (by rw [decide_eq_false hlen]; rfl)) fun q => by cases q) (fun _ H2 e2 => ?_) fun q => by cases q
      refine s_ret ev_c fun H3 e3 => ?_
      have := kk H3 (e.trans (e2.trans e3))
      unfold cntBlock at this
      rw [if_neg fun q => hlen q.1] at this
      exact this
end

end Nt

namespace Nt
open PySem PySem.Spec PyProof.Rows L2 Evl
section
variable {P : Program} {w : World} {K : PySem.W.Frag} {mg : Str → Option Value} {base : Heap}
def chkTab (K : PySem.W.Frag) : List (Str × V) := [("set", .ref (He.ga K "is_set")), ("add", .ref (He.ga K "is_add")), ("wait", .ref (He.ga K "is_wait")), ("ask", .ref (He.ga K "is_ask")), ("answer", .ref (He.ga K "is_answer")), ("grow", .ref (He.ga K "is_one_term")), ("list", .ref (He.ga K "is_one_term"))]
def ChkA (K : PySem.W.Frag) (f : Addr) (sp : Sp) : Prop := (f = He.ga K "is_set" ∧ sp = spL K pSet) ∨ (f = He.ga K "is_add" ∧ sp = spL K pAdd) ∨ (f = He.ga K "is_wait" ∧ sp = spL K pWait) ∨ (f = He.ga K "is_ask" ∧ sp = spL K pAsk) ∨ (f = He.ga K "is_answer" ∧ sp = spL K pAns) ∨ (f = He.ga K "is_one_term" ∧ sp = spL K pTerm)
theorem hA_chk (T : Txt w K mg) (f : Addr) (sp : Sp) (h : ChkA K f sp) : Held P w K mg base 4 f sp := by
  rcases h with ⟨rfl, rfl⟩ | ⟨rfl, rfl⟩ | ⟨rfl, rfl⟩ | ⟨rfl, rfl⟩ | ⟨rfl, rfl⟩ | ⟨rfl, rfl⟩
  · exact ((ok_is_set T).mono (by decide)).held T.g_is_set
  · exact (ok_is_add T).held T.g_is_add
  · exact ((ok_is_wait T).mono (by decide)).held T.g_is_wait
  · exact (ok_is_ask T).held T.g_is_ask
  · exact ((ok_is_answer T).mono (by decide)).held T.g_is_answer
  · exact (ok_is_one_term T).held T.g_is_one_term
theorem chk_at (K : PySem.W.Frag) {kind z : Str} (h : (words kind).contains z = true) : ∃ f, (chkTab K).lookup z = some (.ref f) ∧ ChkA K f (spL K (chk z)) := by
  have hm : z ∈ words kind := List.contains_iff_mem.mp h
  have hz : z = "set" ∨ z = "add" ∨ z = "wait" ∨ z = "ask" ∨ z = "answer" ∨ z = "grow" ∨ z = "list" := by
    unfold words wordsT wordsC at hm
    split at hm
    · simp only [List.mem_cons, List.not_mem_nil, or_false] at hm
      rcases hm with q | q | q | q | q <;> simp [q]
    · simp only [List.mem_cons, List.not_mem_nil, or_false] at hm
      rcases hm with q | q | q | q | q <;> simp [q]
  rcases hz with q | q | q | q | q | q | q
  · subst q; exact ⟨_, rfl, .inl ⟨rfl, rfl⟩⟩
  · subst q; exact ⟨_, rfl, .inr (.inl ⟨rfl, rfl⟩)⟩
  · subst q; exact ⟨_, rfl, .inr (.inr (.inl ⟨rfl, rfl⟩))⟩
  · subst q; exact ⟨_, rfl, .inr (.inr (.inr (.inl ⟨rfl, rfl⟩)))⟩
  · subst q; exact ⟨_, rfl, .inr (.inr (.inr (.inr (.inl ⟨rfl, rfl⟩))))⟩
  · subst q; exact ⟨_, rfl, .inr (.inr (.inr (.inr (.inr ⟨rfl, rfl⟩))))⟩
  · subst q; exact ⟨_, rfl, .inr (.inr (.inr (.inr (.inr ⟨rfl, rfl⟩))))⟩
theorem spvL {g : List PyData → Bool} {a : Addr} {xs : List V} {ds : List PyData} {H : Hp} (hx : SqL K H a xs) (h : DpAll K H xs ds) : SpV (spL K g) [.ref a] H (.bl (g ds)) := fun H1 e Q q E => ⟨a, xs, ds, rfl, ex_l e hx, dpAll_mono e h, fun H' e' => q H' e'⟩
/-- WORDS[kind] -/
theorem words_at (T : Txt w K mg) {kind : Str} (h : okKind kind) (H : Hp) : ∃ a, List.lookup kind [("teller", V.ref (tabAt "WORDS" "teller" K)), ("collector", V.ref (tabAt "WORDS" "collector" K))] = some (.ref a) ∧ SqT K H a ((words kind).map V.str) := by
  rcases h with rfl | rfl
  · exact ⟨_, rfl, T.t_WORDS_teller H⟩
  · exact ⟨_, rfl, T.t_WORDS_collector H⟩
theorem cntStmt_not {kind : Str} {cb : PyData → Option Int} {d : PyData} (h : ∀ z ps, d ≠ .tuple (.str z :: ps)) : cntStmt kind cb d = none := by
  unfold cntStmt
  split
  · exact absurd rfl (h _ _)
  · rfl
theorem cntStmt_blk {kind z : Str} {cb : PyData → Option Int} {ps : List PyData} (hz : isBlk z = true) : cntStmt kind cb (.tuple (.str z :: ps)) = cntBlock cb z ps := if_pos hz
theorem cntStmt_one {kind z : Str} {cb : PyData → Option Int} {ps : List PyData} (hz : isBlk z = false) : cntStmt kind cb (.tuple (.str z :: ps)) = if ((words kind).contains z && chk z ps) = true then some 1 else none := if_neg (by rw [hz]; exact Bool.false_ne_true)
theorem ok_count_statement (T : Txt w K mg) (f k : Nat) (hk4 : 4 ≤ k) (D_count_block : Def P w K mg base CX0 k "count_block" ["kind", "word", "parts", "depth"] (spBlk K f)) : Def P w K mg base CX0 (k + 1) "count_statement" ["kind", "thing", "depth"] (spStm K f) := by
  have hA_check := hA_chk (P := P) (base := base) T
  refine mkDef T.F_count_statement T.g_count_statement sc_count_statement (fun _ _ _ _ _ _ us hl => match us, hl with | [_, _, _], _ => rfl) (fun vs H Q E h => ?_) (fun cdv A outer s H vs Q E hr h => ?_)
  · obtain ⟨_, _, _, _, rfl, _⟩ := h; rfl
  · obtain ⟨kind, v, d, hkd, rfl, hd, hs, kk⟩ := h
    refine ⟨_, (PSs.nox (pss_cons (ps_if (PW.pt (pw_or (pt_not (pt_val (pe_callB call_isi (by rfl) T.m_isinstance boot_isinstance (pa_cons (pv 1) (pa_cons (pe_bltn (v := .ty "tuple") rfl T.m_tuple boot_tuple rfl) pa_nil))))) (pw_or (pt_cmpR op_eq (pe_callB call_len_seq (by rfl) T.m_len boot_len (pa_cons (pv 1) pa_nil)) pe_int (nomark _)) (pw_or1 (pt_not (pt_val (pe_callB call_isi (by rfl) T.m_isinstance boot_isinstance (pa_cons (pe_ix ix_tup (pv 1) pe_int (fun _ _ => rfl)) (pa_cons (pe_bltn (v := .ty "str") rfl T.m_str boot_str rfl) pa_nil))))))))) (pss_one (ps_ret pe_non)) pss_nil)
      (pss_cons (ps_asg (pv 1) (pg_star (n := 2) (i := 1) rfl (pgs_cons (pg_name (i := 3) sc_count_statement.nd rfl (Or.inl rfl)) (pgs_star (pg_name (i := 4) sc_count_statement.nd rfl (Or.inl rfl))))))
      (pss_cons (ps_if (pt_cmpR (op_in_tab T.d_BODIES) (pv 3) (pe_gref rfl T.g_BODIES) (by rfl)) (pss_one (ps_ret (pe_callD D_count_block (hr.mono (by omega)) rfl pass0 (pa_cons (pv 0) (pa_cons (pv 3) (pa_cons (pv 4) (pa_cons (pv 2) pa_nil))))))) pss_nil)
      (pss_cons (ps_if (pt_cmpR op_notIn_seq (pv 3) (pe_ix (ix_tab T.d_WORDS) (pe_gref rfl T.g_WORDS) (pv 0) (fun _ _ => rfl)) (by rfl)) (pss_one (ps_ret pe_non)) pss_nil)
      (pss_cons (ps_set (i := 5) sc_count_statement.nd rfl (Or.inl rfl) (pe_ix (ix_tab T.d_CHECKS) (pe_gref rfl T.g_CHECKS) (pv 3) (fun _ _ => rfl)))
      (pss_one (ps_ret (pe_ifExp (pt_val (pe_callH (i := 5) hA_check (hr.mono (by omega)) rfl (Or.inl rfl) (pa_cons (pv 4) pa_nil))) pe_int pe_non))))))))), ?_⟩
    cases ht : isTup d with
    | false =>
      refine q_when (b := true) (et_or (b := true) (et_not (et_B (ev_cb (ea_cons (ev_var rfl) (ea_cons ev_c ea_nil)) (isi_d hd ((kit_tup d).trans (congrArg some ht)))))) fun q => by cases q) (fun _ H1 e => s_ret ev_c fun H2 e2 => ?_) fun q => by cases q
      have := kk H2 (e.trans e2)
      rw [cntStmt_not (fun z ps q => by rw [q] at ht; cases ht)] at this
      exact this
    | true =>
      obtain ⟨a, xs, ds, rfl, rfl, hx, ha⟩ := dp_tupI hd ht
      obtain ⟨hsz, hsm⟩ := hs.tupI
      cases ha with
      | nil =>
        refine q_when (b := true) (et_or (b := true) (et_not (et_B (ev_cb (ea_cons (ev_var rfl) (ea_cons ev_c ea_nil)) (isi_d hd (kit_tup _))))) fun _ => et_or (a := true) (b := true) (et_test (ev_op (ev_cb (ea_cons (ev_var rfl) ea_nil) (rc_lenT hx)) ev_c (rv_eq rfl))) fun q => by cases q) (fun _ H1 e => s_ret ev_c fun H2 e2 => ?_) fun q => by cases q
        exact kk H2 (e.trans e2)
      | @cons x0 xr d0 dr h0 hr0 =>
        have hl0 : Ev (tOp rEq (tCB (rLenS K) (tCons (tVar 1) tNil)) (tC (.int 0))) [some (.str kind), some (.ref a), some (.int (4 - (f : Int))), none, none, none] H (.bl false) :=
          ev_is (ev_op (ev_cb (ea_cons (ev_var rfl) ea_nil) (rc_lenT hx)) ev_c (rv_eq rfl)) (congrArg V.bl ((int_eq (xr.length + 1) 0).trans rfl))
        refine q_when (b := !isStr d0) (et_is (et_or (b := !isStr d0) (et_not (et_B (ev_cb (ea_cons (ev_var rfl) (ea_cons ev_c ea_nil)) (isi_d hd (kit_tup _))))) fun _ => et_or (a := false) (b := !isStr d0) (et_test hl0) fun _ => et_not (et_B (ev_cb (ea_cons (ev_op (ev_var rfl) ev_c (rv_ixT hx at0)) (ea_cons ev_c ea_nil)) (isi_d h0 (kit_str d0))))) rfl) ?_ ?_
        · intro hb H1 e
          refine s_ret ev_c fun H2 e2 => ?_
          have := kk H2 (e.trans e2)
          rw [cntStmt_not (fun z ps q => by
            injection q with q
            injection q with q1 q2
            rw [q1] at hb; cases hb)] at this
          exact this
        · intro hb H1 e
          have hst : isStr d0 = true := by
            cases q : isStr d0 with
            | true => rfl
            | false => rw [q] at hb; cases hb
          obtain ⟨z, rfl, rfl⟩ := dp_strI h0 hst
          refine ⟨_, rfl, a, _, rfl, ex_t e hx, by show 2 ≤ (xr.length + 1) + 1; omega, by decide, fun p hp => ?_⟩
          have e1 : List.take (xr.length + 1 + 1 - 2) (List.drop 1 (V.str z :: xr)) = xr := by
            rw [List.drop_succ_cons, List.drop_zero, List.take_of_length_le (by omega)]
          have e2 : List.drop (xr.length + 1 + 1 - 2) (List.drop 1 (V.str z :: xr)) = [] := by
            rw [List.drop_succ_cons, List.drop_zero, List.drop_of_length_le (by omega)]
          show gCons (gName 3) (gCons (gName 4) gNil) ([V.str z] ++ [V.ref p] ++ List.drop (xr.length + 1 + 1 - 2) (List.drop 1 (V.str z :: xr))) _ (upd H1 p (.lst (List.take (xr.length + 1 + 1 - 2) (List.drop 1 (V.str z :: xr))))) _
          rw [e1, e2]
          refine ⟨_, _, rfl, _, _, rfl, rfl, ?_⟩
          have e3 : Ex H1 (upd H1 p (.lst xr)) := Ex.new hp
          have hq : SqL K (upd H1 p (.lst xr)) p xr := sq_of upd_same
          have hdr : DpAll K (upd H1 p (.lst xr)) xr dr := dpAll_mono (e.trans e3) hr0
          refine q_when (et_is (et_test (ev_op (ev_var rfl) ev_c rv_inTab)) (bod_is z)) ?_ ?_
          · intro hz H2 e4
            refine s_ret (ev_call (ea_cons (ev_var rfl) (ea_cons (ev_var rfl) (ea_cons (ev_var rfl) (ea_cons (ev_var rfl) ea_nil)))) (spvBlk hkd hz (ex_l e4 hq) (dpAll_mono e4 hdr) (by have := hsz; rw [List.length_cons] at this; omega) fun d hd => hsm d (List.mem_cons_of_mem _ hd))) fun H3 e5 => ?_
            have := kk H3 (e.trans (e3.trans (e4.trans e5)))
            rw [cntStmt_blk hz] at this
            exact this
          · intro hz H2 e4
            obtain ⟨aw, hw1, hw2⟩ := words_at T hkd H2
            refine q_when (b := !(words kind).contains z) (et_is (et_test (ev_op (ev_var rfl) (ev_op ev_c (ev_var rfl) (rv_ixTab hw1)) (rv_niT hw2 rfl (flat_strs _)))) (by rw [in_strs])) ?_ ?_
            · intro hc H3 e5
              refine s_ret ev_c fun H4 e6 => ?_
              have := kk H4 (e.trans (e3.trans (e4.trans (e5.trans e6))))
              have hc' : (words kind).contains z = false := by
                cases q : (words kind).contains z with
                | false => rfl
                | true => rw [q] at hc; cases hc
              rw [cntStmt_one hz, hc'] at this
              exact this
            · intro hc H3 e5
              have hc' : (words kind).contains z = true := by
                cases q : (words kind).contains z with
                | true => rfl
                | false => rw [q] at hc; cases hc
              obtain ⟨fc, hf1, hf2⟩ := chk_at K hc'
              refine q_asg (ev_op ev_c (ev_var rfl) (rv_ixTab hf1)) fun H4 e6 => ?_
              have e7 := e4.trans (e5.trans e6)
              refine s_ret (ev_if (v := cV (if chk z dr = true then some 1 else none)) (et_B (ev_callH rfl hf2 (ea_cons (ev_var rfl) ea_nil) (spvL (ex_l e7 hq) (dpAll_mono e7 hdr)))) (fun hb => ev_is ev_c (by rw [if_pos hb]; rfl)) (fun hb => ev_is ev_c (by rw [if_neg (by rw [hb]; exact Bool.false_ne_true)]; rfl))) fun H5 e8 => ?_
              have := kk H5 (e.trans (e3.trans (e7.trans e8)))
              rw [cntStmt_one hz, hc', Bool.true_and] at this
              exact this
end

end Nt

namespace Nt
open PySem PySem.Spec PyProof.Rows L2 Evl
section
variable {P : Program} {w : World} {K : PySem.W.Frag} {mg : Str → Option Value} {base : Heap}
theorem cntBody_not {kind : Str} {f : Nat} {d : PyData} (h : isTup d = false) : cntBody kind f d = none := by
  cases d with
  | tuple xs => cases h
  | _ => cases f <;> rfl
/-- the guard: not a tuple, or too deep -/
theorem ok_count_body0 (T : Txt w K mg) : Def P w K mg base CX0 1 "count_body" ["kind", "thing", "depth"] (spBod K 0) := by
  have D_count_statement : Def P w K mg base CX0 0 "count_statement" ["kind", "thing", "depth"] (fun _ _ _ _ => False) := Def.idle 0 T.F_count_statement T.g_count_statement (fun _ _ _ _ _ _ us hl => match us, hl with | [_, _, _], _ => rfl)
  refine mkDef T.F_count_body T.g_count_body sc_count_body (fun _ _ _ _ _ _ us hl => match us, hl with | [_, _, _], _ => rfl) (fun vs H Q E h => ?_) (fun cdv A outer s H vs Q E hr h => ?_)
  · obtain ⟨_, _, _, _, rfl, _⟩ := h; rfl
  · obtain ⟨kind, v, d, hkd, rfl, hd, hs, kk⟩ := h
    refine ⟨_, (PSs.nox (pss_cons (ps_if (PW.pt (pw_or (pt_not (pt_val (pe_callB call_isi (by rfl) T.m_isinstance boot_isinstance (pa_cons (pv 1) (pa_cons (pe_bltn (v := .ty "tuple") rfl T.m_tuple boot_tuple rfl) pa_nil))))) (pw_or1 (PW.pt (pw_and (pt_cmpR op_gt (pe_callB call_len_seq (by rfl) T.m_len boot_len (pa_cons (pv 1) pa_nil)) pe_int (nomark _)) (pw_and1 (pt_cmpR op_gt (pv 2) (pe_gint rfl T.c_MOST_DEPTH) (nomark _)))))))) (pss_one (ps_ret pe_non)) pss_nil)
      (pss_cons (ps_setLc (i := 3) (own := [("statement", 4)]) (by rfl) sc_count_body.nd rfl rfl (sw_true rfl rfl rfl (by decide +kernel)) (pi_tup (pv 1)) (blkOk_by (own := [("statement", 4)]) (N := N_count_body) (sc := defScope s_count_body) (by decide +kernel)) (fun _ _ _ _ _ => (pg_name (i := 4) sc_count_body.nd rfl (Or.inl rfl))) (fun _ _ _ _ _ => pts_nil) (fun _ _ _ _ _ => (pe_callD D_count_statement (hr.mono (by omega)) rfl pass0 (pa_cons (pv 0) (pa_cons (pv 4) (pa_cons (pv 2) pa_nil))))))
      (pss_one (ps_ret (pe_ifExp (pt_cmpR op_in_seq pe_non (pv 3) (by rfl)) pe_non (pe_callB (cr_sum rfl) (by rfl) T.m_sum boot_sum (pa_cons (pv 3) pa_nil)))))))), ?_⟩
    cases ht : isTup d with
    | false =>
      refine q_when (b := true) (et_or (b := true) (et_not (et_B (ev_cb (ea_cons (ev_var rfl) (ea_cons ev_c ea_nil)) (isi_d hd ((kit_tup d).trans (congrArg some ht)))))) fun q => by cases q) (fun _ H1 e => s_ret ev_c fun H2 e2 => ?_) fun q => by cases q
      have := kk H2 (e.trans e2)
      rw [cntBody_not ht] at this
      exact this
    | true =>
      obtain ⟨a, xs, ds, rfl, rfl, hx, ha⟩ := dp_tupI hd ht
      cases ha with
      | nil =>
        refine q_when (b := false) (et_or (b := false) (et_not (et_B (ev_cb (ea_cons (ev_var rfl) (ea_cons ev_c ea_nil)) (isi_d hd (kit_tup _))))) fun _ => et_and (a := false) (b := false) (et_test (ev_op (ev_cb (ea_cons (ev_var rfl) ea_nil) (rc_lenT hx)) ev_c rv_gt)) fun q => by cases q) (fun q => by cases q) fun _ H1 e => ?_
        refine q_asgL (el_mapT (ys := (([] : List (Option Int)).map cV)) (ev_var rfl) (ex_t e hx) rfl (by simp) (fun x => rfl) fun i x y H3 e3 hi hy => by cases hi) fun q H3 hq e3 hq3 => ?_
        refine s_ret (ev_counts (os := []) (g := fun s => s) rfl (sq_of hq3) fun hno => ?_) fun H4 e4 => kk H4 (e.trans (e3.trans e4))
        exact ev_cb (ea_cons (ev_var rfl) ea_nil) (rc_sum (ns := []) (sq_of hq3))
      | @cons x0 xr d0 dr h0 hr0 =>
        refine q_when (b := true) (et_or (b := true) (et_not (et_B (ev_cb (ea_cons (ev_var rfl) (ea_cons ev_c ea_nil)) (isi_d hd (kit_tup _))))) fun _ => et_and (a := true) (b := true) (et_is (et_test (ev_op (ev_cb (ea_cons (ev_var rfl) ea_nil) (rc_lenT hx)) ev_c rv_gt)) (decide_eq_true (by rw [List.length_cons]; omega))) fun _ => et_test (ev_op (ev_var rfl) ev_c rv_gt)) (fun _ H1 e => s_ret ev_c fun H2 e2 => kk H2 (e.trans e2)) fun q => by cases q
theorem ok_count_bodyS (T : Txt w K mg) (f k : Nat) (D_count_statement : Def P w K mg base CX0 k "count_statement" ["kind", "thing", "depth"] (spStm K f)) : Def P w K mg base CX0 (k + 1) "count_body" ["kind", "thing", "depth"] (spBod K (f + 1)) := by
  refine mkDef T.F_count_body T.g_count_body sc_count_body (fun _ _ _ _ _ _ us hl => match us, hl with | [_, _, _], _ => rfl) (fun vs H Q E h => ?_) (fun cdv A outer s H vs Q E hr h => ?_)
  · obtain ⟨_, _, _, _, rfl, _⟩ := h; rfl
  · obtain ⟨kind, v, d, hkd, rfl, hd, hs, kk⟩ := h
    have e5 : (5 - ((f + 1 : Nat) : Int)) = 4 - (f : Int) := by omega
    rw [e5]
    refine ⟨_, (PSs.nox (pss_cons (ps_if (PW.pt (pw_or (pt_not (pt_val (pe_callB call_isi (by rfl) T.m_isinstance boot_isinstance (pa_cons (pv 1) (pa_cons (pe_bltn (v := .ty "tuple") rfl T.m_tuple boot_tuple rfl) pa_nil))))) (pw_or1 (PW.pt (pw_and (pt_cmpR op_gt (pe_callB call_len_seq (by rfl) T.m_len boot_len (pa_cons (pv 1) pa_nil)) pe_int (nomark _)) (pw_and1 (pt_cmpR op_gt (pv 2) (pe_gint rfl T.c_MOST_DEPTH) (nomark _)))))))) (pss_one (ps_ret pe_non)) pss_nil)
      (pss_cons (ps_setLc (i := 3) (own := [("statement", 4)]) (by rfl) sc_count_body.nd rfl rfl (sw_true rfl rfl rfl (by decide +kernel)) (pi_tup (pv 1)) (blkOk_by (own := [("statement", 4)]) (N := N_count_body) (sc := defScope s_count_body) (by decide +kernel)) (fun _ _ _ _ _ => (pg_name (i := 4) sc_count_body.nd rfl (Or.inl rfl))) (fun _ _ _ _ _ => pts_nil) (fun _ _ _ _ _ => (pe_callD D_count_statement (hr.mono (by omega)) rfl pass0 (pa_cons (pv 0) (pa_cons (pv 4) (pa_cons (pv 2) pa_nil))))))
      (pss_one (ps_ret (pe_ifExp (pt_cmpR op_in_seq pe_non (pv 3) (by rfl)) pe_non (pe_callB (cr_sum rfl) (by rfl) T.m_sum boot_sum (pa_cons (pv 3) pa_nil)))))))), ?_⟩
    cases ht : isTup d with
    | false =>
      refine q_when (b := true) (et_or (b := true) (et_not (et_B (ev_cb (ea_cons (ev_var rfl) (ea_cons ev_c ea_nil)) (isi_d hd ((kit_tup d).trans (congrArg some ht)))))) fun q => by cases q) (fun _ H1 e => s_ret ev_c fun H2 e2 => ?_) fun q => by cases q
      have := kk H2 (e.trans e2)
      rw [cntBody_not ht] at this
      exact this
    | true =>
      obtain ⟨a, xs, ds, rfl, rfl, hx, ha⟩ := dp_tupI hd ht
      obtain ⟨hsz, hsm⟩ := hs.tupI
      have hn := dpAll_len ha
      refine q_when (b := false) (et_is (et_or (b := false) (et_not (et_B (ev_cb (ea_cons (ev_var rfl) (ea_cons ev_c ea_nil)) (isi_d hd (kit_tup _))))) fun _ => et_is (et_and (b := false) (et_test (ev_op (ev_cb (ea_cons (ev_var rfl) ea_nil) (rc_lenT hx)) ev_c rv_gt)) fun _ => et_is (et_test (ev_op (ev_var rfl) ev_c rv_gt)) (decide_eq_false (by omega))) (Bool.and_false _)) rfl) (fun q => by cases q) fun _ H1 e => ?_
      refine q_asgL (el_mapT (ys := ((ds.map (cntStmt kind (cntBody kind f))).map cV)) (ev_var rfl) (ex_t e hx) (by rw [List.length_map, List.length_map, hn]) (by omega) (fun x => rfl) fun i x y H3 e3 hi hy => ?_) fun q H3 hq e3 hq3 => ?_
      · obtain ⟨d, hd, hdx⟩ := dpAll_get (dpAll_mono (e.trans e3) ha) hi
        rw [List.getElem?_map, List.getElem?_map, hd] at hy
        cases hy
        exact ev_call (ea_cons (ev_var rfl) (ea_cons (ev_var rfl) (ea_cons (ev_var rfl) ea_nil))) (spvStm hkd hdx (hsm d (List.mem_of_getElem? hd)))
      · refine s_ret (ev_counts (g := fun s => s) rfl (sq_of hq3) fun hno => ?_) fun H4 e4 => ?_
        · rw [cV_some hno] at hq3
          exact ev_cb (ea_cons (ev_var rfl) ea_nil) (rc_sum (sq_of hq3))
        · have := kk H4 (e.trans (e3.trans e4))
          rw [show (sumO (ds.map (cntStmt kind (cntBody kind f)))).map (fun s => s) = sumO (ds.map (cntStmt kind (cntBody kind f))) from Option.map_id']
          exact this
theorem ok_count_body (T : Txt w K mg) : ∀ f : Nat, Def P w K mg base CX0 (4 + 3 * f) "count_body" ["kind", "thing", "depth"] (spBod K f)
  | 0 => (ok_count_body0 T).mono (by decide)
  | f + 1 => (ok_count_bodyS T f (4 + 3 * f + 1 + 1) (ok_count_statement T f (4 + 3 * f + 1) (by omega) (ok_count_block T f (4 + 3 * f) (by omega) (ok_count_body T f)))).mono (by omega)
/-! ### is_program -/
def isProg : PyData → Bool
  | .tuple [.str kind, body] => (kind == "teller" || kind == "collector") && (match cntBody kind 4 body with
    | some n => decide (n ≤ 24)
    | none => false)
  | _ => false
def spProg (K : PySem.W.Frag) : Sp := fun vs H Q _ => ∃ v d, vs = [v] ∧ Dp K H v d ∧ Sm d ∧ ∀ H', Same H H' → Q (.bl (isProg d)) H'
theorem spvProg {v : V} {d : PyData} {H : Hp} (h : Dp K H v d) (hs : Sm d) : SpV (spProg K) [v] H (.bl (isProg d)) := fun H1 e Q q E => ⟨v, d, rfl, dp_mono e h, hs, fun H' e' => q H' e'⟩
theorem isProg_not {d : PyData} (h : isTup d = false) : isProg d = false := by
  cases d <;> first | rfl | cases h
theorem isProg_len {ds : List PyData} (h : ¬ ds.length = 2) : isProg (.tuple ds) = false := by
  match ds, h with
  | [], _ => rfl
  | [x], _ => cases x <;> rfl
  | [_, _], h => exact absurd rfl h
  | x :: _ :: _ :: _, _ => cases x <;> rfl
theorem isProg_str {d0 d1 : PyData} (h : isStr d0 = false) : isProg (.tuple [d0, d1]) = false := by
  cases d0 <;> first | rfl | cases h
theorem kind_is (K : PySem.W.Frag) (z : Str) : (List.lookup z [(("teller" : Str), V.ref (tabAt "WORDS" "teller" K)), (("collector" : Str), V.ref (tabAt "WORDS" "collector" K))]).isSome = (z == "teller" || z == "collector") := by
  rw [List.lookup_cons, List.lookup_cons, List.lookup_nil]
  cases (z == "teller") <;> cases (z == "collector") <;> rfl
theorem ok_is_program (T : Txt w K mg) : Def P w K mg base CX0 17 "is_program" ["thing"] (spProg K) := by
  have D_count_body := ok_count_body (P := P) (base := base) T 4
  refine mkDef T.F_is_program T.g_is_program sc_is_program (fun _ _ _ _ _ _ us hl => match us, hl with | [_], _ => rfl) (fun vs H Q E h => ?_) (fun cdv A outer s H vs Q E hr h => ?_)
  · obtain ⟨_, _, rfl, _⟩ := h; rfl
  · obtain ⟨v, d, rfl, hd, hs, kk⟩ := h
    refine ⟨_, (PSs.nox (pss_cons (ps_if (PW.pt (pw_or (pt_not (pt_val (pe_callB call_isi (by rfl) T.m_isinstance boot_isinstance (pa_cons (pv 0) (pa_cons (pe_bltn (v := .ty "tuple") rfl T.m_tuple boot_tuple rfl) pa_nil))))) (pw_or (pt_cmpR op_ne (pe_callB call_len_seq (by rfl) T.m_len boot_len (pa_cons (pv 0) pa_nil)) pe_int (nomark _)) (pw_or (pt_not (pt_val (pe_callB call_isi (by rfl) T.m_isinstance boot_isinstance (pa_cons (pe_ix ix_tup (pv 0) pe_int (fun _ _ => rfl)) (pa_cons (pe_bltn (v := .ty "str") rfl T.m_str boot_str rfl) pa_nil))))) (pw_or1 (pt_cmpR (op_ni_tab T.d_WORDS) (pe_ix ix_tup (pv 0) pe_int (fun _ _ => rfl)) (pe_gref rfl T.g_WORDS) (by rfl))))))) (pss_one (ps_ret pe_bl)) pss_nil)
      (pss_cons (ps_set (i := 1) sc_is_program.nd rfl (Or.inl rfl) (pe_callD D_count_body (hr.mono (by omega)) rfl pass0 (pa_cons (pe_ix ix_tup (pv 0) pe_int (fun _ _ => rfl)) (pa_cons (pe_ix ix_tup (pv 0) pe_int (fun _ _ => rfl)) (pa_cons pe_int pa_nil)))))
      (pss_one (ps_ret (pe_and (pe_cmpR op_notN (pv 1) pe_non (nomark _)) (pe_one (pe_cmpR op_le (pv 1) (pe_gint rfl T.c_MOST_STATEMENTS) (nomark _))))))))), ?_⟩
    cases ht : isTup d with
    | false =>
      refine q_when (b := true) (et_or (b := true) (et_not (et_B (ev_cb (ea_cons (ev_var rfl) (ea_cons ev_c ea_nil)) (isi_d hd ((kit_tup d).trans (congrArg some ht)))))) fun q => by cases q) (fun _ H1 e => s_ret ev_c fun H2 e2 => ?_) fun q => by cases q
      have := kk H2 (e.trans e2)
      rw [isProg_not ht] at this
      exact this
    | true =>
      obtain ⟨a, xs, ds, rfl, rfl, hx, ha⟩ := dp_tupI hd ht
      obtain ⟨hsz, hsm⟩ := hs.tupI
      have hn := dpAll_len ha
      by_cases hl : xs.length = 2
      · obtain ⟨x0, x1, rfl⟩ := len2 hl
        obtain ⟨d0, d1, rfl, h0, h1⟩ := dp2 ha
        have hl0 : Ev (tOp rNe (tCB (rLenS K) (tCons (tVar 0) tNil)) (tC (.int 2))) [some (.ref a), none] H (.bl false) := ev_op (ev_cb (ea_cons (ev_var rfl) ea_nil) (rc_lenT hx)) ev_c (rv_ne rfl)
        cases hst : isStr d0 with
        | false =>
          refine q_when (b := true) (et_is (et_or (b := true) (et_not (et_B (ev_cb (ea_cons (ev_var rfl) (ea_cons ev_c ea_nil)) (isi_d hd (kit_tup _))))) fun _ => et_or (a := false) (b := true) (et_test hl0) fun _ => et_or (a := true) (b := true) (et_not (et_B (ev_cb (ea_cons (ev_op (ev_var rfl) ev_c (rv_ixT hx at0)) (ea_cons ev_c ea_nil)) (isi_d h0 ((kit_str d0).trans (congrArg some hst)))))) fun q => by cases q) rfl) (fun _ H1 e => s_ret ev_c fun H2 e2 => ?_) fun q => by cases q
          have := kk H2 (e.trans e2)
          rw [isProg_str hst] at this
          exact this
        | true =>
          obtain ⟨z, rfl, rfl⟩ := dp_strI h0 hst
          refine q_when (b := !(z == "teller" || z == "collector")) (et_is (et_or (b := !(z == "teller" || z == "collector")) (et_not (et_B (ev_cb (ea_cons (ev_var rfl) (ea_cons ev_c ea_nil)) (isi_d hd (kit_tup _))))) fun _ => et_or (a := false) (b := !(z == "teller" || z == "collector")) (et_test hl0) fun _ => et_or (a := false) (b := !(z == "teller" || z == "collector")) (et_not (et_B (ev_cb (ea_cons (ev_op (ev_var rfl) ev_c (rv_ixT hx at0)) (ea_cons ev_c ea_nil)) (isi_d h0 (kit_str _))))) fun _ => et_is (et_test (ev_op (ev_op (ev_var rfl) ev_c (rv_ixT hx at0)) ev_c rv_niTab)) (congrArg not (kind_is K z))) rfl) ?_ ?_
          · intro hb H1 e
            refine s_ret ev_c fun H2 e2 => ?_
            have := kk H2 (e.trans e2)
            have hz : (z == "teller" || z == "collector") = false := by
              cases q : (z == "teller" || z == "collector") with
              | false => rfl
              | true => rw [q] at hb; cases hb
            have hp : isProg (.tuple [.str z, d1]) = false := by
              show ((z == "teller" || z == "collector") && _) = false
              rw [hz]; rfl
            rw [hp] at this
            exact this
          · intro hb H1 e
            have hz : (z == "teller" || z == "collector") = true := by
              cases q : (z == "teller" || z == "collector") with
              | true => rfl
              | false => rw [q] at hb; cases hb
            have hkd : okKind z := by
              rcases Bool.or_eq_true_iff.mp hz with q | q
              · exact .inl (eq_of_beq q)
              · exact .inr (eq_of_beq q)
            have hx1 := ex_t e hx
            refine q_asg (ev_call (ea_cons (ev_op (ev_var rfl) ev_c (rv_ixT hx1 at0)) (ea_cons (ev_op (ev_var rfl) ev_c (rv_ixT hx1 at1)) (ea_cons ev_c ea_nil))) (spvBod (f := 4) hkd (dp_mono e h1) (hsm _ (by simp)))) fun H2 e2 => ?_
            have hp : isProg (.tuple [.str z, d1]) = (match cntBody z 4 d1 with
                | some n => decide (n ≤ 24)
                | none => false) := by
              show ((z == "teller" || z == "collector") && _) = _
              rw [hz, Bool.true_and]
            rw [hp] at kk
            cases hc : cntBody z 4 d1 with
            | none =>
              rw [hc] at kk
              exact s_ret (ev_andV (a := false) (b := false) (ev_op (ev_var rfl) ev_c rv_notN) fun q => by cases q) fun H3 e3 => kk H3 (e.trans (e2.trans e3))
            | some n =>
              rw [hc] at kk
              exact s_ret (ev_andV (a := true) (ev_op (ev_var rfl) ev_c rv_notN) fun _ => ev_op (ev_var rfl) ev_c rv_le) fun H3 e3 => kk H3 (e.trans (e2.trans e3))
      · refine q_when (b := true) (et_or (b := true) (et_not (et_B (ev_cb (ea_cons (ev_var rfl) (ea_cons ev_c ea_nil)) (isi_d hd (kit_tup _))))) fun _ => et_or (a := true) (b := true) (et_is (et_test (ev_op (ev_cb (ea_cons (ev_var rfl) ea_nil) (rc_lenT hx)) ev_c (rv_ne rfl))) ((int_ne xs.length 2).trans (by rw [decide_eq_false hl]; rfl))) fun q => by cases q) (fun _ H1 e => s_ret ev_c fun H2 e2 => ?_) fun q => by cases q
        have := kk H2 (e.trans e2)
        rw [isProg_len (by rw [← hn]; exact hl)] at this
        exact this
end

end Nt

namespace Nt
open PySem PySem.Spec PyProof.Rows L2 Evl
/-! ### the law's bag: a list of two ints that draws change -/
def Bag (H : Hp) (b : Addr) : Prop := ∃ n s : Int, H b = some (.lst [.int n, .int s]) ∧ 0 ≤ n ∧ 0 ≤ s ∧ s < 2147483648
def ExB (b : Addr) (H H' : Hp) : Prop := ∀ a o, a ≠ b → H a = some o → H' a = some o
structure HasBag (W : Wd) (b : Addr) : Prop where
  m : W.M b = true
  bag : ∀ H, W.J H → Bag H b
  put : ∀ H H', W.J H → ExB b H H' → Bag H' b → W.J H'
theorem HasBag.le {W : Wd} {b : Addr} (h : HasBag W b) {H H' : Hp} (j : W.J H) (e : ExB b H H') (g : Bag H' b) : W.Le H H' := by
  refine ⟨fun a o ha => ?_, h.put H H' j e g⟩
  unfold Wd.wo at ha ⊢
  split at ha
  · cases ha
  · rename_i hn
    rw [if_neg hn]
    refine e a o (fun q => hn ?_) ha
    rw [q]; exact h.m
def bagW (b : Addr) : Wd where
  M := fun a => a == b
  J := fun H => Bag H b
  live := fun H a ⟨n, s, h, _⟩ e => by rw [eq_of_beq e, h]; exact fun z => nomatch z
  loc := fun H H' ⟨n, s, h, r⟩ k => ⟨n, s, by rw [k b (beq_self_eq_true b)]; exact h, r⟩
theorem bagW_has (b : Addr) : HasBag (bagW b) b := ⟨beq_self_eq_true b, fun _ h => h, fun _ _ _ _ h => h⟩
/-- a helper's promise: A of the data behind the bag, G of what comes back -/
def spB (K : PySem.W.Frag) (A : List PyData → Prop) (G : List PyData → PyData → Prop) : Sp := fun vs H Q _ => ∃ (W : Wd) (b : Addr) (xs : List V) (ds : List PyData), HasBag W b ∧ W.J H ∧ vs = .ref b :: xs ∧ DpAll K (W.wo H) xs ds ∧ A ds ∧
  ∀ v d H', W.Le H H' → Dp K (W.wo H') v d → G ds d → Q v H'
theorem em_help {W : Wd} {K : PySem.W.Frag} {σ : L2.St} {H : Hp} {A A' : List PyData → Prop} {G : List PyData → PyData → Prop} {b : Addr} {i : Nat} {ta : TA} {E : XK} (h0 : σ[i]? = some (some (.ref b))) (hb : HasBag W b) (ha : EmA W K ta σ H A') (hA : ∀ ds, A' ds → A ds) :
    Em W K (tCall (spB K A G) [] E (tCons (tVar i) ta)) σ H (fun d => ∃ ds, A' ds ∧ G ds d) := fun H1 e Q q =>
  ⟨_, h0, ha H1 e _ fun vs ds H2 e2 hds p => ⟨W, b, vs, ds, hb, e2.j, by rw [List.append_nil], hds, hA ds p, fun v d H' e3 hd g => q v d H' (e2.trans e3) hd ⟨ds, p, g⟩⟩⟩
/-- the promise of draw -/
def drawA : List PyData → Prop := fun ds => ∃ m : Int, ds = [.int m] ∧ 0 < m ∧ m < 1073741824
def drawG : List PyData → PyData → Prop := fun ds d => ∃ m r : Int, ds = [.int m] ∧ d = .int r ∧ 0 ≤ r ∧ r < m
theorem em_draw {W : Wd} {K : PySem.W.Frag} {σ : L2.St} {H : Hp} {b : Addr} {i : Nat} {te : TE} {E : XK} {P : Int → Prop} (h0 : σ[i]? = some (some (.ref b))) (hb : HasBag W b) (ha : Em W K te σ H (IsI fun m => 0 < m ∧ m < 1073741824 ∧ P m)) :
    Em W K (tCall (spB K drawA drawG) [] E (tCons (tVar i) (tCons te tNil))) σ H (IsI fun r => ∃ m, P m ∧ 0 ≤ r ∧ r < m) := by
  refine Em.imp (em_help (A' := fun ds => ∃ m : Int, ds = [.int m] ∧ 0 < m ∧ m < 1073741824 ∧ P m) h0 hb (ema_cons ha fun d hd => ema_nil ?_) ?_) ?_
  · obtain ⟨m, rfl, h⟩ := hd
    exact ⟨m, rfl, h⟩
  · rintro ds ⟨m, rfl, h1, h2, _⟩
    exact ⟨m, rfl, h1, h2⟩
  · rintro d ⟨ds, ⟨m, rfl, h1, h2, h3⟩, m', r, e1, rfl, h4, h5⟩
    have e2 : m = m' := by injection e1 with e1; injection e1
    subst e2
    exact ⟨r, rfl, m, h3, h4, h5⟩
/-- by a written number -/
theorem em_drawN {W : Wd} {K : PySem.W.Frag} {σ : L2.St} {H : Hp} {b : Addr} {i : Nat} {m : Int} {E : XK} (h0 : σ[i]? = some (some (.ref b))) (hb : HasBag W b) (h1 : 0 < m ∧ m < 1073741824 := by decide) :
    Em W K (tCall (spB K drawA drawG) [] E (tCons (tVar i) (tCons (tC (.int m)) tNil))) σ H (IsI fun r => 0 ≤ r ∧ r < m) :=
  Em.imp (em_draw (P := fun n => n = m) h0 hb (em_int ⟨m, rfl, h1.1, h1.2, rfl⟩)) fun d ⟨r, e, n, hn, h⟩ => ⟨r, e, by rw [hn] at h; exact h⟩
section
variable {P : Program} {w : World} {K : PySem.W.Frag} {mg : Str → Option Value} {base : Heap}
theorem bag_put {b : Addr} {H : Hp} {n s : Int} (h1 : 0 ≤ n) (h2 : 0 ≤ s) (h3 : s < 2147483648) : Bag (upd H b (.lst [.int n, .int s])) b := ⟨n, s, upd_same, h1, h2, h3⟩
theorem exB_put {b : Addr} {H : Hp} {o : HO} : ExB b H (upd H b o) := fun a u ne h => by rw [upd_ne ne]; exact h
theorem mul_bound {x y a b : Int} (hx : 0 ≤ x) (hxa : x < a) (hy : 0 ≤ y) (hyb : y < b) : 0 ≤ x * y ∧ x * y < a * b := by
  refine ⟨Int.mul_nonneg hx hy, ?_⟩
  have h1 : x * y ≤ x * b := Int.mul_le_mul_of_nonneg_left (by omega) hx
  have h2 : x * b < a * b := Int.mul_lt_mul_of_pos_right hxa (by omega)
  omega
theorem ok__law_draw (T : Txt w K mg) : Def P w K mg base CX0 1 "_law_draw" ["_law_bag_here", "_law_many"] (spB K drawA drawG) := by
  refine mkDef T.F__law_draw T.g__law_draw sc__law_draw (fun _ _ _ _ _ _ us hl => match us, hl with | [_, _], _ => rfl) (fun vs H Q E h => ?_) (fun cdv A outer s H vs Q E hr h => ?_)
  · obtain ⟨W, b, xs, ds, _, _, rfl, hd, ⟨m, rfl, _⟩, _⟩ := h
    have := dpAll_len hd
    show xs.length + 1 = 2
    rw [this]; rfl
  · obtain ⟨W, b, xs, ds, hB, j, rfl, hd, ⟨m, rfl, hm0, hm1⟩, k⟩ := h
    obtain ⟨x, rfl⟩ := len1 (dpAll_len hd)
    obtain ⟨_, e, hx⟩ := dp1 hd
    cases e
    cases dpI hx
    obtain ⟨n, s0, hb, hn, hs0, hs1⟩ := hB.bag H j
    have hsq : SqL K H b [.int n, .int s0] := sq_of hb
    refine ⟨_, (PSs.nox (pss_cons (ps_if (pt_cmpR op_gt (pe_ix ix_list (pv 0) pe_int (fun _ _ => rfl)) pe_int (nomark _)) (pss_cons (ps_set (i := 2) sc__law_draw.nd rfl (Or.inl rfl) (pe_op op_mod (pe_ix ix_list (pv 0) pe_int (fun _ _ => rfl)) (pv 1)))
      (pss_cons (ps_asg (pe_op op_fdiv (pe_ix ix_list (pv 0) pe_int (fun _ _ => rfl)) (pv 1)) (pg_sub (pv 0) pe_int set_list))
      (pss_one (ps_ret (pv 2))))) pss_nil)
      (pss_cons (ps_asg (pe_op op_mod (pe_op op_mul (pe_ix ix_list (pv 0) pe_int (fun _ _ => rfl)) pe_int) pe_int) (pg_sub (pv 0) pe_int set_list))
      (pss_one (ps_ret (pe_op op_mod (pe_op op_fdiv (pe_op op_mod (pe_op op_mul (pe_ix ix_list (pv 0) pe_int (fun _ _ => rfl)) (pe_op op_add (pe_op op_fdiv (pe_ix ix_list (pv 0) pe_int (fun _ _ => rfl)) pe_int) pe_int)) pe_int) pe_int) (pv 1))))))), ?_⟩
    refine q_when (et_test (ev_op (ev_op (ev_var rfl) ev_c (rv_ixL hsq at0)) ev_c rv_gt)) ?_ ?_
    · intro hgt H1 e
      have e0 := e b _ hb
      have hsq1 : SqL K H1 b [.int n, .int s0] := sq_of e0
      refine q_asg (ev_op (ev_op (ev_var rfl) ev_c (rv_ixL hsq1 at0)) (ev_var rfl) (rv_I hm0)) fun H2 e2 => ?_
      have e02 := e2 b _ e0
      refine q_setL (j := 0) e02 (ev_op (ev_op (ev_var rfl) ev_c (rv_ixL (sq_of e02) at0)) (ev_var rfl) (rv_I ⟨hm0, hm1⟩)) (ev_var rfl) ev_c (by show 0 < 2; decide) fun H3 e3 => ?_
      refine s_ret (ev_var rfl) fun H4 e4 => ?_
      have hn' : 0 ≤ n / m := Int.ediv_nonneg hn (by omega)
      have le1 : W.Le H H3 := .of_same j (e.trans (e2.trans e3))
      have le2 : W.Le H3 (upd H3 b (.lst [.int (n / m), .int s0])) := hB.le le1.j exB_put (bag_put hn' hs0 hs1)
      have le3 := Wd.Le.of_same le2.j e4
      exact k _ _ H4 (le1.trans (le2.trans le3)) (.int _) ⟨m, _, rfl, rfl, Int.emod_nonneg _ (by omega), Int.emod_lt_of_pos _ hm0⟩
    · intro hle H1 e
      have e0 := e b _ hb
      have hmul : CMul s0 48271 := .inl ⟨by omega, by omega⟩
      refine q_setL (j := 1) e0 (ev_op (ev_op (ev_op (ev_var rfl) ev_c (rv_ixL (sq_of e0) at1)) ev_c (rv_I hmul)) ev_c (rv_I (by decide))) (ev_var rfl) ev_c (by show 1 < 2; decide) fun H2 e2 => ?_
      have hs2 : 0 ≤ s0 * 48271 % 2147483647 := Int.emod_nonneg _ (by decide)
      have hs3 : s0 * 48271 % 2147483647 < 2147483647 := Int.emod_lt_of_pos _ (by decide)
      generalize s0 * 48271 % 2147483647 = s1 at hs2 hs3
      have le1 : W.Le H H2 := .of_same j (e.trans e2)
      have le2 : W.Le H2 (upd H2 b (.lst [.int n, .int s1])) := hB.le le1.j exB_put (bag_put hn hs2 (by omega))
      have hsq2 : SqL K (upd H2 b (.lst [.int n, .int s1])) b [.int n, .int s1] := sq_of upd_same
      refine s_ret (ev_op (ev_op (ev_op (ev_op (ev_op (ev_var rfl) ev_c (rv_ixL hsq2 at1)) (ev_op (ev_op (ev_op (ev_var rfl) ev_c (rv_ixL hsq2 at1)) ev_c (rv_I ⟨by decide, by decide⟩)) ev_c rv_I0) (rv_I (Or.inl ⟨by omega, by omega⟩))) ev_c (rv_I (by decide))) ev_c (rv_I ⟨by decide, by decide⟩)) (ev_var rfl) (rv_I hm0)) fun H3 e3 => ?_
      exact k _ _ H3 (le1.trans (le2.trans (.of_same le2.j e3))) (.int _) ⟨m, _, rfl, rfl, Int.emod_nonneg _ (by omega), Int.emod_lt_of_pos _ hm0⟩
end

end Nt

namespace Nt
open PySem PySem.Spec PyProof.Rows L2 Evl
theorem HasBag.plus {W : Wd} {b p : Addr} {o : HO} (h : HasBag W b) (hm : W.M p = false) : HasBag (W.plus p o) b := by
  have hne : p ≠ b := fun q => by rw [q, h.m] at hm; cases hm
  refine ⟨by show (W.M b || b == p) = true; rw [h.m]; rfl, fun H j => h.bag H j.1, fun H H' j e g => ⟨h.put H H' j.1 e g, e p _ hne j.2⟩⟩
/-- the cell of the script -/
def cellI (ns : List Int) (k : Nat) : Int := match ns[k]? with
  | some i => if i < 0 then -i else i
  | none => 0
theorem cellI_nn (ns : List Int) (k : Nat) : 0 ≤ cellI ns k := by
  unfold cellI
  split
  · split <;> omega
  · omega
def spBag (K : PySem.W.Frag) : Sp := fun vs H Q _ => ∃ (a : Addr) (ns : List Int) (k : Nat), vs = [.ref a, .int (k : Int)] ∧ SqL K H a (ns.map V.int) ∧ k ≤ 1000 ∧ ∀ b H', H b = none → Same H H' → Bag H' b → Q (.ref b) H'
section
variable {P : Program} {w : World} {K : PySem.W.Frag} {mg : Str → Option Value} {base : Heap}
theorem ok__law_bag (T : Txt w K mg) : Def P w K mg base CX0 1 "_law_bag" ["_law_script", "_law_k"] (spBag K) := by
  refine mkDef T.F__law_bag T.g__law_bag sc__law_bag (fun _ _ _ _ _ _ us hl => match us, hl with | [_, _], _ => rfl) (fun vs H Q E h => ?_) (fun cdv A outer s H vs Q E hr h => ?_)
  · obtain ⟨a, ns, k, rfl, _⟩ := h; rfl
  · obtain ⟨a, ns, k, rfl, hx, hk, kk⟩ := h
    refine ⟨_, (PSs.nox (pss_cons (ps_set (i := 2) sc__law_bag.nd rfl (Or.inl rfl) pe_int)
      (pss_cons (ps_if (pt_cmpR op_lt (pv 1) (pe_callB call_len_seq (by rfl) T.m_len boot_len (pa_cons (pv 0) pa_nil)) (nomark _)) (pss_one (ps_set (i := 2) sc__law_bag.nd rfl (Or.inl rfl) (pe_callB call_abs (by rfl) T.m_abs boot_abs (pa_cons (pe_ix ix_list (pv 0) (pv 1) (fun _ _ => rfl)) pa_nil)))) pss_nil)
      (pss_cons (ps_set (i := 3) sc__law_bag.nd rfl (Or.inl rfl) (pe_op op_add pe_int (pe_op op_mod (pe_op op_add (pe_op op_add (pe_op op_add (pe_op op_mul (pe_op op_mod (pv 2) pe_int) pe_int) (pe_op op_mul (pe_op op_mul pe_int (pv 1)) (pv 1))) (pe_op op_mul pe_int (pv 1))) pe_int) pe_int)))
      (pss_one (ps_ret (pe_lst (pa_cons (pe_op op_mul (pv 2) (pe_callTy call_int1 (by rfl) T.m_int boot_int (pa_cons (pe_cmpR op_ge (pv 2) (pe_op op_pow pe_int pe_int) (nomark _)) pa_nil))) (pa_cons (pv 3) pa_nil))))))))), ?_⟩
    refine q_asg ev_c fun H1 e1 => ?_
    have hc0 := cellI_nn ns k
    refine q_ifAsg (b := decide ((k : Int) < (ns.length : Int))) (v := .int (cellI ns k)) (et_is (et_test (ev_op (ev_var rfl) (ev_cb (ea_cons (ev_var rfl) ea_nil) (rc_lenL (ex_l e1 hx))) rv_lt)) (by rw [List.length_map])) (fun hb => ?_) (fun hb => ?_) fun H2 e2 => ?_
    · have hlt : k < ns.length := by have := of_decide_eq_true hb; omega
      have hn : ns[k]? = some ns[k] := List.getElem?_eq_getElem hlt
      refine ev_is (ev_cb (ea_cons (ev_op (ev_var rfl) (ev_var rfl) (rv_ixL (ex_l e1 hx) (atI_nat (j := k) (by rw [List.getElem?_map, hn]; rfl)))) ea_nil) rc_abs) ?_
      unfold cellI; rw [hn]
    · have hge : ns.length ≤ k := by have := of_decide_eq_false hb; omega
      have hn : ns[k]? = none := List.getElem?_eq_none hge
      unfold cellI; rw [hn]; rfl
    · generalize hcell : cellI ns k = c at hc0
      have hr0 : 0 ≤ c % 2147483647 := Int.emod_nonneg _ (by decide)
      have hr1 : c % 2147483647 < 2147483647 := Int.emod_lt_of_pos _ (by decide)
      refine q_asg (ev_op ev_c (ev_op (ev_op (ev_op (ev_op (ev_op (ev_op (ev_var rfl) ev_c (rv_I (by decide))) ev_c (rv_I (.inr ⟨by decide, by decide⟩))) (ev_op (ev_op ev_c (ev_var rfl) (rv_I (.inl ⟨by decide, by decide⟩))) (ev_var rfl) (rv_I (.inr ⟨by omega, by omega⟩))) rv_I0) (ev_op ev_c (ev_var rfl) (rv_I (.inl ⟨by decide, by decide⟩))) rv_I0) ev_c rv_I0) ev_c (rv_I (by decide))) rv_I0) fun H3 e3 => ?_
      have hs0 : 0 ≤ (c % 2147483647 * 48271 + 7919 * (k : Int) * (k : Int) + 104729 * (k : Int) + 97) % 2147483646 := Int.emod_nonneg _ (by decide)
      have hs1 : (c % 2147483647 * 48271 + 7919 * (k : Int) * (k : Int) + 104729 * (k : Int) + 97) % 2147483646 < 2147483646 := Int.emod_lt_of_pos _ (by decide)
      generalize (c % 2147483647 * 48271 + 7919 * (k : Int) * (k : Int) + 104729 * (k : Int) + 97) % 2147483646 = st at hs0 hs1
      refine s_retL (el_lst (ea_cons (ev_op (ev_var rfl) (ev_cb (ea_cons (ev_op (ev_var rfl) (ev_op ev_c ev_c (rv_I ⟨by decide, by decide, by decide⟩)) (rv_I0)) ea_nil) rc_intB) (rv_I (.inr ⟨by split <;> decide, by split <;> decide⟩))) (ea_cons (ev_var rfl) ea_nil)) (by show 2 ≤ 100000; decide)) fun p H4 hp e4 hp4 => ?_
      refine kk p H4 ?_ (e1.trans (e2.trans (e3.trans e4))) ⟨_, _, hp4, ?_, by omega, by omega⟩
      · exact fresh_back (e1.trans (e2.trans e3)) hp
      · refine Int.mul_nonneg hc0 ?_
        split <;> decide
/-! ### large, steps -/
def largeA : List PyData → Prop := fun ds => ∃ m : Int, ds = [.int m] ∧ 0 < m
def largeG : List PyData → PyData → Prop := fun ds d => ∃ m r : Int, ds = [.int m] ∧ d = .int r ∧ 0 ≤ r ∧ r < m
theorem ok__law_large (T : Txt w K mg) : Def P w K mg base CX0 2 "_law_large" ["_law_bag_here", "_law_many"] (spB K largeA largeG) := by
  have D__law_draw := ok__law_draw (P := P) (base := base) T
  refine mkDef T.F__law_large T.g__law_large sc__law_large (fun _ _ _ _ _ _ us hl => match us, hl with | [_, _], _ => rfl) (fun vs H Q E h => ?_) (fun cdv A outer s H vs Q E hr h => ?_)
  · obtain ⟨W, b, xs, ds, _, _, rfl, hd, ⟨m, rfl, _⟩, _⟩ := h
    have := dpAll_len hd
    show xs.length + 1 = 2
    rw [this]; rfl
  · obtain ⟨W, b, xs, ds, hB, j, rfl, hd, ⟨m, rfl, hm0⟩, k⟩ := h
    obtain ⟨x, rfl⟩ := len1 (dpAll_len hd)
    obtain ⟨_, e, hx⟩ := dp1 hd
    cases e
    cases dpI hx
    refine ⟨_, (PSs.nox (pss_cons (ps_set (i := 2) sc__law_large.nd rfl (Or.inl rfl) pe_int)
      (pss_cons (ps_set (i := 3) sc__law_large.nd rfl (Or.inl rfl) pe_int)
      (pss_cons (ps_while PassesOwn.never (pt_cmpR op_lt (pv 3) (pv 1) (nomark _)) (pss_cons (ps_set (i := 2) sc__law_large.nd rfl (Or.inl rfl) (pe_op op_add (pe_op op_mul (pv 2) pe_int) (pe_callD D__law_draw (hr.mono (by omega)) rfl pass0 (pa_cons (pv 0) (pa_cons pe_int pa_nil)))))
      (pss_one (ps_set (i := 3) sc__law_large.nd rfl (Or.inl rfl) (pe_op op_mul (pv 3) pe_int)))))
      (pss_one (ps_ret (pe_op op_mod (pv 2) (pv 1)))))))), ?_⟩
    refine q_asg ev_c fun H1 e1 => q_asg ev_c fun H2 e2 => ?_
    have le0 : W.Le H H2 := .of_same j (e1.trans e2)
    refine q_while (fun mu σ' H' => ∃ nu ro : Int, σ' = [some (.ref b), some (.int m), some (.int nu), some (.int ro)] ∧ 0 ≤ nu ∧ 1 ≤ ro ∧ W.Le H H' ∧ mu = (m - ro).toNat) (m - 1).toNat ⟨0, 1, rfl, by decide, by decide, le0, rfl⟩ fun mu σ' H' hw => ?_
    obtain ⟨nu, ro, rfl, hnu, hro, le1, rfl⟩ := hw
    refine ⟨decide (ro < m), et_test (ev_op (ev_var rfl) (ev_var rfl) rv_lt), fun hlt H3 e3 => ?_, fun hge H3 e3 => ?_⟩
    · have hlt : ro < m := of_decide_eq_true hlt
      refine ⟨fun σ' H' => ∃ nu' : Int, σ' = [some (.ref b), some (.int m), some (.int nu'), some (.int (ro * 1048576))] ∧ 0 ≤ nu' ∧ W.Le H H', ?_, ?_⟩
      · rintro σ2 H4 ⟨nu', rfl, h1, h2⟩
        exact ⟨_, by omega, nu', ro * 1048576, rfl, h1, by omega, h2, rfl⟩
      · have le2 : W.Le H H3 := le1.trans (.of_same le1.j e3)
        refine m_asg (K := K) (P := IsI fun i => 0 ≤ i) le2.j (em_opI0 (P1 := fun i => 0 ≤ i) (P2 := fun i => 0 ≤ i) (em_opI (P1 := fun i => i = nu) (P2 := fun i => i = 1048576) (em_var rfl (.int nu) ⟨nu, rfl, rfl⟩) (em_int ⟨_, rfl, rfl⟩) ?_) (Em.imp (em_drawN rfl hB) ?_) ?_) ?_
        · rintro i j rfl rfl
          exact ⟨.inr ⟨by decide, by decide⟩, by omega⟩
        · rintro d ⟨r, rfl, h1, h2⟩
          exact ⟨r, rfl, h1⟩
        · intro i j h1 h2
          show 0 ≤ i + j
          omega
        · rintro v d H4 le4 hd ⟨nu', rfl, h1⟩
          cases dpI hd
          refine s_asg (ev_op (ev_var rfl) ev_c (rv_I (.inr ⟨by decide, by decide⟩))) fun H5 e5 => ?_
          exact ⟨nu', rfl, h1, le2.trans (le4.trans (.of_same le4.j e5))⟩
    · refine s_ret (ev_op (ev_var rfl) (ev_var rfl) (rv_I hm0)) fun H4 e4 => ?_
      have le2 : W.Le H H4 := le1.trans (.of_same le1.j (e3.trans e4))
      exact k _ _ H4 le2 (.int _) ⟨m, _, rfl, rfl, Int.emod_nonneg _ (by omega), Int.emod_lt_of_pos _ hm0⟩
end

end Nt

namespace Nt
open PySem PySem.Spec PyProof.Rows L2 Evl
def stepsG : List PyData → PyData → Prop := fun _ d => ∃ i : Int, d = .int i ∧ 1 ≤ i ∧ i ≤ 1000000000000000000000000000000
def noA : List PyData → Prop := fun ds => ds = []
def termG : List PyData → PyData → Prop := fun _ d => isTerm d = true
def condG : List PyData → PyData → Prop := fun _ d => isCond d = true
def kindA : List PyData → Prop := fun ds => ∃ kind : Str, ds = [.str kind] ∧ okKind kind
def kindG : List PyData → PyData → Prop := fun _ d => ∃ kind : Str, d = .str kind ∧ okKind kind
def okSimple (kind : Str) (d : PyData) : Prop := ∃ z ps, d = .tuple (.str z :: ps) ∧ (words kind).contains z = true ∧ chk z ps = true
def simpleG : List PyData → PyData → Prop := fun ds d => ∃ kind : Str, ds = [.str kind] ∧ okSimple kind d
theorem len_noA {W : Wd} {K : PySem.W.Frag} {H : Hp} {xs : List V} {ds : List PyData} (h : DpAll K H xs ds) (e : noA ds) : xs = [] := by
  cases e
  cases h
  rfl
theorem atI_ab {i : Int} (h : 0 ≤ i ∧ i < 2) : ∃ c, ("ab" : Str).length ≤ 20000 ∧ atI ("ab" : Str).cps.toList i = some c ∧ vars.contains ⟨#[c]⟩ = true := by
  have h2 : i = 0 ∨ i = 1 := by omega
  rcases h2 with rfl | rfl
  · exact ⟨97, by decide +kernel, by decide +kernel, by decide +kernel⟩
  · exact ⟨98, by decide +kernel, by decide +kernel, by decide +kernel⟩
theorem atI_dirs {i : Int} (h : 0 ≤ i ∧ i < 3) : ∃ c, ("+-=" : Str).length ≤ 20000 ∧ atI ("+-=" : Str).cps.toList i = some c ∧ dirs.contains ⟨#[c]⟩ = true := by
  have h2 : i = 0 ∨ i = 1 ∨ i = 2 := by omega
  rcases h2 with rfl | rfl | rfl
  · exact ⟨43, by decide +kernel, by decide +kernel, by decide +kernel⟩
  · exact ⟨45, by decide +kernel, by decide +kernel, by decide +kernel⟩
  · exact ⟨61, by decide +kernel, by decide +kernel, by decide +kernel⟩
section
variable {W : Wd} {K : PySem.W.Frag} {σ : L2.St} {H : Hp} {b : Addr} {i : Nat} {E : XK}
theorem em_ab {te : TE} (h : Em W K te σ H (IsI fun r => 0 ≤ r ∧ r < 2)) : Em W K (tOp rIxS (tC (.str "ab")) te) σ H (IsS fun s => vars.contains s = true) :=
  em_ixS (P1 := fun s => s = "ab") (em_str ⟨_, rfl, rfl⟩) h fun s i hs hi => by subst hs; exact atI_ab hi
theorem em_no {G : List PyData → PyData → Prop} (h0 : σ[i]? = some (some (.ref b))) (hb : HasBag W b) : Em W K (tCall (spB K noA G) [] E (tCons (tVar i) tNil)) σ H (G []) :=
  Em.imp (em_help (A' := noA) h0 hb (ema_nil rfl) fun _ h => h) fun d ⟨ds, h, g⟩ => by cases h; exact g
end
section
variable {P : Program} {w : World} {K : PySem.W.Frag} {mg : Str → Option Value} {base : Heap}
theorem em_pow {W : Wd} {σ : L2.St} {H : Hp} {n m : Int} {P : Int → Prop} (hc : CPow n m) (p : P (n ^ m.toNat)) : Em W K (tOp (rI CPow fun i j => .int (i ^ j.toNat)) (tC (.int n)) (tC (.int m))) σ H (IsI P) :=
  em_opI (P1 := fun i => i = n) (P2 := fun i => i = m) (em_int ⟨_, rfl, rfl⟩) (em_int ⟨_, rfl, rfl⟩) fun i j h1 h2 => by subst h1 h2; exact ⟨hc, p⟩
theorem ok__law_steps (T : Txt w K mg) : Def P w K mg base CX0 3 "_law_steps" ["_law_bag_here"] (spB K noA stepsG) := by
  have D__law_draw := ok__law_draw (P := P) (base := base) T
  have D__law_large := ok__law_large (P := P) (base := base) T
  refine mkDef T.F__law_steps T.g__law_steps sc__law_steps (fun _ _ _ _ _ _ us hl => match us, hl with | [_], _ => rfl) (fun vs H Q E h => ?_) (fun cdv A outer s H vs Q E hr h => ?_)
  · obtain ⟨W, b, xs, ds, _, _, rfl, hd, hA, _⟩ := h
    cases len_noA (W := W) hd hA; rfl
  · obtain ⟨W, b, xs, ds, hB, j, rfl, hd, hA, k⟩ := h
    cases len_noA (W := W) hd hA
    refine ⟨_, (PSs.nox (pss_one (ps_ret (pe_ix ix_list (pe_lst (pa_cons (pe_op op_add pe_int (pe_callD D__law_draw (hr.mono (by omega)) rfl pass0 (pa_cons (pv 0) (pa_cons pe_int pa_nil)))) (pa_cons (pe_op op_add pe_int (pe_callD D__law_large (hr.mono (by omega)) rfl pass0 (pa_cons (pv 0) (pa_cons (pe_op op_pow pe_int pe_int) pa_nil)))) (pa_cons (pe_op op_sub (pe_op op_pow pe_int pe_int) (pe_callD D__law_draw (hr.mono (by omega)) rfl pass0 (pa_cons (pv 0) (pa_cons pe_int pa_nil)))) pa_nil)))) (pe_op op_fdiv (pe_callD D__law_draw (hr.mono (by omega)) rfl pass0 (pa_cons (pv 0) (pa_cons pe_int pa_nil))) pe_int) (fun _ _ => rfl))))), ?_⟩
    refine m_ret (K := K) (P := stepsG []) j (em_ixL (P1 := fun ds => ∃ d0 d1 d2, ds = [d0, d1, d2] ∧ stepsG [] d0 ∧ stepsG [] d1 ∧ stepsG [] d2) (P2 := fun i => 0 ≤ i ∧ i < 3) (em_lst (ema_cons (P1 := stepsG []) ?_ fun d0 h0 => ema_cons (P1 := stepsG []) ?_ fun d1 h1 => ema_cons (P1 := stepsG []) ?_ fun d2 h2 => ema_nil ⟨ok20, _, rfl, d0, d1, d2, rfl, h0, h1, h2⟩)) ?_ ?_) fun v d H1 e hd p => k v d H1 e hd (by cases hA; exact p)
    · exact Em.imp (em_opI0 (P1 := fun i => i = 1) (em_int ⟨_, rfl, rfl⟩) (em_drawN rfl hB) (P := fun i => 1 ≤ i ∧ i ≤ 4) fun i j h1 h2 => by subst h1; show 1 ≤ 1 + j ∧ 1 + j ≤ 4; omega) fun d ⟨i, e, h1, h2⟩ => ⟨i, e, h1, by omega⟩
    · refine Em.imp (em_opI0 (P1 := fun i => i = 1) (P2 := fun i => 0 ≤ i ∧ i < 1000000000000000000000000000000) (em_int ⟨_, rfl, rfl⟩) (Em.imp (em_help (A := largeA) (G := largeG) (A' := fun ds => ds = [.int 1000000000000000000000000000000]) rfl hB (ema_cons (P1 := fun d => d = .int 1000000000000000000000000000000) (Em.imp (em_pow (P := fun i => i = 1000000000000000000000000000000) ⟨by decide, by decide, by decide⟩ (by decide)) ?_) fun d hd => ema_nil (by rw [hd])) ?_) ?_) (P := fun i => 1 ≤ i ∧ i ≤ 1000000000000000000000000000000) fun i j h1 h2 => by subst h1; show 1 ≤ 1 + j ∧ 1 + j ≤ _; omega) fun d h => h
      · rintro d ⟨i, rfl, rfl⟩; rfl
      · rintro ds rfl; exact ⟨_, rfl, by decide⟩
      · rintro d ⟨ds, rfl, m, r, e1, rfl, h1, h2⟩
        have : m = 1000000000000000000000000000000 := by injection e1 with e1; injection e1 with e1; exact e1.symm
        subst this
        exact ⟨r, rfl, h1, h2⟩
    · exact Em.imp (em_opI0 (P1 := fun i => i = 1000000000000000000000000000000) (em_pow ⟨by decide, by decide, by decide⟩ (by decide)) (em_drawN rfl hB) (P := fun i => 1 ≤ i ∧ i ≤ 1000000000000000000000000000000) fun i j h1 h2 => by subst h1; show 1 ≤ _ - j ∧ _ - j ≤ _; omega) fun d h => h
    · exact em_opI (P1 := fun i => 0 ≤ i ∧ i < 8) (P2 := fun i => i = 3) (em_drawN rfl hB) (em_int ⟨_, rfl, rfl⟩) fun i j h1 h2 => by subst h2; exact ⟨⟨by decide, by decide⟩, by show 0 ≤ i / 3 ∧ i / 3 < 3; omega⟩
    · rintro ds i ⟨d0, d1, d2, rfl, h0, h1, h2⟩ hi
      exact at_three hi h0 h1 h2
theorem ok__law_term (T : Txt w K mg) : Def P w K mg base CX0 2 "_law_term" ["_law_bag_here"] (spB K noA termG) := by
  have D__law_draw := ok__law_draw (P := P) (base := base) T
  refine mkDef T.F__law_term T.g__law_term sc__law_term (fun _ _ _ _ _ _ us hl => match us, hl with | [_], _ => rfl) (fun vs H Q E h => ?_) (fun cdv A outer s H vs Q E hr h => ?_)
  · obtain ⟨W, b, xs, ds, _, _, rfl, hd, hA, _⟩ := h
    cases len_noA (W := W) hd hA; rfl
  · obtain ⟨W, b, xs, ds, hB, j, rfl, hd, hA, k⟩ := h
    cases len_noA (W := W) hd hA
    refine ⟨_, (PSs.nox (pss_cons (ps_set (i := 1) sc__law_term.nd rfl (Or.inl rfl) (pe_callD D__law_draw (hr.mono (by omega)) rfl pass0 (pa_cons (pv 0) (pa_cons pe_int pa_nil))))
      (pss_cons (ps_if (pt_cmpR op_gt (pv 1) pe_int (nomark _)) (pss_one (ps_ret (pe_ix ix_str pe_str (pe_op op_mod (pv 1) pe_int) (fun _ _ => rfl)))) pss_nil)
      (pss_one (ps_ret (pv 1)))))), ?_⟩
    refine m_asg (K := K) j (em_drawN rfl hB) ?_
    rintro v d H1 e1 hd ⟨r, rfl, h1, h2⟩
    cases dpI hd
    refine m_when e1.j (emt_test (em_cmpI (K := K) (P1 := fun i => i = r) (P2 := fun i => i = 15) (P := fun b => b = decide (15 < r)) (em_var rfl (.int r) ⟨r, rfl, rfl⟩) (em_int ⟨_, rfl, rfl⟩) fun i j hi hj => by rw [hi, hj])) ?_ ?_
    · intro hb H2 e2
      refine m_ret (K := K) e2.j (em_ab (em_opI (P1 := fun i => i = r) (P2 := fun i => i = 2) (em_var rfl (.int r) ⟨r, rfl, rfl⟩) (em_int ⟨_, rfl, rfl⟩) fun i j hi hj => by subst hj; exact ⟨by decide, by show 0 ≤ i % 2 ∧ i % 2 < 2; omega⟩)) ?_
      rintro v d H3 e3 hd ⟨s, rfl, hs⟩
      exact k _ _ H3 (e1.trans (e2.trans e3)) hd (by show (isVal _ || isOne vars (.str s)) = true; exact hs)
    · intro hb H2 e2
      have hb : ¬ (15 < r) := of_decide_eq_false hb.symm
      refine m_ret (K := K) (P := IsI fun i => i = r) e2.j (em_var rfl (.int r) ⟨r, rfl, rfl⟩) ?_
      rintro v d H3 e3 hd3 ⟨i, rfl, rfl⟩
      refine k _ _ H3 (e1.trans (e2.trans e3)) hd3 ?_
      show (isVal (.int i) || isOne vars (.int i)) = true
      have : isVal (.int i) = true := by
        show (decide (0 ≤ i) && decide (i < 16)) = true
        rw [decide_eq_true h1, decide_eq_true (by omega)]; rfl
      rw [this]; rfl
theorem ok__law_condition (T : Txt w K mg) : Def P w K mg base CX0 3 "_law_condition" ["_law_bag_here"] (spB K noA condG) := by
  have D__law_draw := ok__law_draw (P := P) (base := base) T
  have D__law_term := ok__law_term (P := P) (base := base) T
  refine mkDef T.F__law_condition T.g__law_condition sc__law_condition (fun _ _ _ _ _ _ us hl => match us, hl with | [_], _ => rfl) (fun vs H Q E h => ?_) (fun cdv A outer s H vs Q E hr h => ?_)
  · obtain ⟨W, b, xs, ds, _, _, rfl, hd, hA, _⟩ := h
    cases len_noA (W := W) hd hA; rfl
  · obtain ⟨W, b, xs, ds, hB, j, rfl, hd, hA, k⟩ := h
    cases len_noA (W := W) hd hA
    refine ⟨_, (PSs.nox (pss_one (ps_ret (pe_tup (pa_cons (pe_ix ix_str pe_str (pe_callD D__law_draw (hr.mono (by omega)) rfl pass0 (pa_cons (pv 0) (pa_cons pe_int pa_nil))) (fun _ _ => rfl)) (pa_cons (pe_ix ix_list (pe_lst (pa_cons pe_str (pa_cons pe_str (pa_cons pe_str pa_nil)))) (pe_callD D__law_draw (hr.mono (by omega)) rfl pass0 (pa_cons (pv 0) (pa_cons pe_int pa_nil))) (fun _ _ => rfl)) (pa_cons (pe_callD D__law_term (hr.mono (by omega)) rfl pass0 (pa_cons (pv 0) pa_nil)) pa_nil))))))), ?_⟩
    refine m_ret (K := K) (P := condG []) j (em_tup (ema_cons (em_ab (em_drawN rfl hB)) fun d0 h0 => ema_cons (P1 := IsS fun s => comps.contains s = true) (em_ixL (P1 := fun ds => ds = [.str "==", .str "!=", .str "<"]) (em_lst (ema_cons (P1 := fun d => d = .str "==") (em_str rfl) fun _ h => ema_cons (P1 := fun d => d = .str "!=") (em_str rfl) fun _ h' => ema_cons (P1 := fun d => d = .str "<") (em_str rfl) fun _ h'' => ema_nil ⟨ok20, _, rfl, by rw [h, h', h'']⟩)) (em_drawN rfl hB) ?_) fun d1 h1 => ema_cons (em_no rfl hB) fun d2 h2 => ema_nil ⟨ok20, ?_⟩)) fun v d H1 e hd p => k v d H1 e hd (by cases hA; exact p)
    · rintro ds i rfl hi
      exact at_three (P := IsS fun s => comps.contains s = true) hi ⟨_, rfl, by decide +kernel⟩ ⟨_, rfl, by decide +kernel⟩ ⟨_, rfl, by decide +kernel⟩
    · obtain ⟨s0, rfl, h0⟩ := h0
      obtain ⟨s1, rfl, h1⟩ := h1
      show (vars.contains s0 && (comps.contains s1 && isTerm d2)) = true
      rw [h0, h1]
      exact h2
theorem ok__law_kind (T : Txt w K mg) : Def P w K mg base CX0 2 "_law_kind" ["_law_bag_here"] (spB K noA kindG) := by
  have D__law_draw := ok__law_draw (P := P) (base := base) T
  refine mkDef T.F__law_kind T.g__law_kind sc__law_kind (fun _ _ _ _ _ _ us hl => match us, hl with | [_], _ => rfl) (fun vs H Q E h => ?_) (fun cdv A outer s H vs Q E hr h => ?_)
  · obtain ⟨W, b, xs, ds, _, _, rfl, hd, hA, _⟩ := h
    cases len_noA (W := W) hd hA; rfl
  · obtain ⟨W, b, xs, ds, hB, j, rfl, hd, hA, k⟩ := h
    cases len_noA (W := W) hd hA
    refine ⟨_, (PSs.nox (pss_one (ps_ret (pe_ix ix_list (pe_lst (pa_cons pe_str (pa_cons pe_str pa_nil))) (pe_callD D__law_draw (hr.mono (by omega)) rfl pass0 (pa_cons (pv 0) (pa_cons pe_int pa_nil))) (fun _ _ => rfl))))), ?_⟩
    refine m_ret (K := K) (P := kindG []) j (em_ixL (P1 := fun ds => ds = [.str "teller", .str "collector"]) (em_lst (ema_cons (P1 := fun d => d = .str "teller") (em_str rfl) fun _ h => ema_cons (P1 := fun d => d = .str "collector") (em_str rfl) fun _ h' => ema_nil ⟨ok20, _, rfl, by rw [h, h']⟩)) (em_drawN rfl hB) ?_) fun v d H1 e hd p => k v d H1 e hd (by cases hA; exact p)
    rintro ds i rfl hi
    exact at_two (P := kindG []) hi ⟨_, rfl, .inl rfl⟩ ⟨_, rfl, .inr rfl⟩
end

end Nt

namespace Nt
open PySem PySem.Spec PyProof.Rows L2 Evl
theorem words_both {kind : Str} (h : okKind kind) {z : Str} (hz : z = "wait" ∨ z = "set" ∨ z = "add") : (words kind).contains z = true := by
  rcases h with rfl | rfl <;> rcases hz with rfl | rfl | rfl <;> decide +kernel
theorem words_coll {z : Str} (hz : z = "grow" ∨ z = "list") : (words "collector").contains z = true := by
  rcases hz with rfl | rfl <;> decide +kernel
theorem words_tell {z : Str} (hz : z = "answer" ∨ z = "ask") : (words "teller").contains z = true := by
  rcases hz with rfl | rfl <;> decide +kernel
theorem isVal_of {i : Int} (h1 : 0 ≤ i) (h2 : i < 16) : isVal (.int i) = true := by
  show (decide (0 ≤ i) && decide (i < 16)) = true
  rw [decide_eq_true h1, decide_eq_true h2]; rfl
section
variable {P : Program} {w : World} {K : PySem.W.Frag} {mg : Str → Option Value} {base : Heap}
theorem ok__law_simple (T : Txt w K mg) : Def P w K mg base CX0 4 "_law_simple" ["_law_bag_here", "_law_kind_here"] (spB K kindA simpleG) := by
  have D__law_draw := ok__law_draw (P := P) (base := base) T
  have D__law_term := ok__law_term (P := P) (base := base) T
  have D__law_steps := ok__law_steps (P := P) (base := base) T
  refine mkDef T.F__law_simple T.g__law_simple sc__law_simple (fun _ _ _ _ _ _ us hl => match us, hl with | [_, _], _ => rfl) (fun vs H Q E h => ?_) (fun cdv A outer s H vs Q E hr h => ?_)
  · obtain ⟨W, b, xs, ds, _, _, rfl, hd, ⟨kind, rfl, _⟩, _⟩ := h
    have := dpAll_len hd
    show xs.length + 1 = 2
    rw [this]; rfl
  · obtain ⟨W, b, xs, ds, hB, j, rfl, hd, ⟨kind, rfl, hkd⟩, k⟩ := h
    obtain ⟨x, rfl⟩ := len1 (dpAll_len hd)
    obtain ⟨_, e, hx⟩ := dp1 hd
    cases e
    cases dpS hx
    refine ⟨_, (PSs.nox (pss_cons (ps_set (i := 2) sc__law_simple.nd rfl (Or.inl rfl) (pe_callD D__law_draw (hr.mono (by omega)) rfl pass0 (pa_cons (pv 0) (pa_cons pe_int pa_nil))))
      (pss_cons (ps_set (i := 3) sc__law_simple.nd rfl (Or.inl rfl) (pe_ix ix_str pe_str (pe_callD D__law_draw (hr.mono (by omega)) rfl pass0 (pa_cons (pv 0) (pa_cons pe_int pa_nil))) (fun _ _ => rfl)))
      (pss_cons (ps_if (pt_cmpR op_eq (pv 2) pe_int (nomark _)) (pss_one (ps_ret (pe_tup (pa_cons pe_str (pa_cons (pe_callD D__law_steps (hr.mono (by omega)) rfl pass0 (pa_cons (pv 0) pa_nil)) pa_nil))))) pss_nil)
      (pss_cons (ps_if (pt_cmpR op_lt (pv 2) pe_int (nomark _)) (pss_one (ps_ret (pe_tup (pa_cons pe_str (pa_cons (pv 3) (pa_cons (pe_callD D__law_draw (hr.mono (by omega)) rfl pass0 (pa_cons (pv 0) (pa_cons pe_int pa_nil))) pa_nil)))))) pss_nil)
      (pss_cons (ps_if (pt_cmpR op_lt (pv 2) pe_int (nomark _)) (pss_one (ps_ret (pe_tup (pa_cons pe_str (pa_cons (pv 3) (pa_cons (pe_callD D__law_term (hr.mono (by omega)) rfl pass0 (pa_cons (pv 0) pa_nil)) pa_nil)))))) pss_nil)
      (pss_cons (ps_if (pt_cmpR op_eq (pv 1) pe_str (nomark _)) (pss_one (ps_ret (pe_tup (pa_cons (pe_ix ix_list (pe_lst (pa_cons pe_str (pa_cons pe_str pa_nil))) (pe_op op_mod (pv 2) pe_int) (fun _ _ => rfl)) (pa_cons (pe_callD D__law_term (hr.mono (by omega)) rfl pass0 (pa_cons (pv 0) pa_nil)) pa_nil))))) pss_nil)
      (pss_cons (ps_if (PW.pt (pw_and (pt_cmpR op_eq (pv 2) pe_int (nomark _)) (pw_and1 (pt_cmpR op_eq (pe_callD D__law_draw (hr.mono (by omega)) rfl pass0 (pa_cons (pv 0) (pa_cons pe_int pa_nil))) pe_int (nomark _))))) (pss_one (ps_ret (pe_tup (pa_cons pe_str (pa_cons (pe_callD D__law_draw (hr.mono (by omega)) rfl pass0 (pa_cons (pv 0) (pa_cons pe_int pa_nil))) pa_nil))))) pss_nil)
      (pss_one (ps_ret (pe_tup (pa_cons pe_str (pa_cons (pe_ix ix_str pe_str (pe_callD D__law_draw (hr.mono (by omega)) rfl pass0 (pa_cons (pv 0) (pa_cons pe_int pa_nil))) (fun _ _ => rfl)) (pa_cons (pe_callD D__law_term (hr.mono (by omega)) rfl pass0 (pa_cons (pv 0) pa_nil)) (pa_cons (pv 3) pa_nil))))))))))))))), ?_⟩
    refine m_asg (K := K) j (em_drawN rfl hB) ?_
    rintro v d H1 e1 hd1 ⟨r, rfl, hr0, hr8⟩
    cases dpI hd1
    refine m_asg (K := K) e1.j (em_ab (em_drawN rfl hB)) ?_
    rintro v d H2 e2 hd2 ⟨sv, rfl, hsv⟩
    cases dpS hd2
    have er {H3 : Hp} : Em W K (tVar 2) [some (.ref b), some (.str kind), some (.int r), some (.str sv)] H3 (IsI fun i => i = r) := em_var rfl (.int r) ⟨r, rfl, rfl⟩
    have evr {H3 : Hp} : Em W K (tVar 3) [some (.ref b), some (.str kind), some (.int r), some (.str sv)] H3 (fun d => d = .str sv) := em_var rfl (.str sv) rfl
    have ek {H3 : Hp} : Em W K (tVar 1) [some (.ref b), some (.str kind), some (.int r), some (.str sv)] H3 (IsS fun i => i = kind) := em_var rfl (.str kind) ⟨kind, rfl, rfl⟩
    have fin : ∀ {te : TE} {H3 : Hp} {D : Ends}, D.rt = Q → W.Le H2 H3 → Em W K te [some (.ref b), some (.str kind), some (.int r), some (.str sv)] H3 (okSimple kind) → tRet te D [some (.ref b), some (.str kind), some (.int r), some (.str sv)] H3 := fun {te H3 D} hD e3 h => m_ret e3.j h fun v d H4 e4 hd p => by
      rw [hD]
      exact k v d H4 (e1.trans (e2.trans (e3.trans e4))) hd ⟨kind, rfl, p⟩
    have cmp {g : Int → Int → Bool} {n : Int} {H3 : Hp} : EmT W (tTest (tOp (rI0 fun i j => .bl (g i j)) (tVar 2) (tC (.int n)))) [some (.ref b), some (.str kind), some (.int r), some (.str sv)] H3 (fun c => c = g r n) :=
      emt_test (em_cmpI (K := K) (P2 := fun i => i = n) er (em_int ⟨_, rfl, rfl⟩) fun i j hi hj => by rw [hi, hj])
    have eqt {n : Int} {H3 : Hp} : EmT W (tTest (tOp rEq (tVar 2) (tC (.int n)))) [some (.ref b), some (.str kind), some (.int r), some (.str sv)] H3 (fun c => c = decide (r = n)) :=
      emt_test (em_eqI (K := K) (P2 := fun i => i = n) er (em_int ⟨_, rfl, rfl⟩) fun i j hi hj => by rw [hi, hj])
    refine m_when e2.j eqt (fun _ H3 e3 => fin rfl e3 ?_) fun hn0 H3 e3 => ?_
    · refine em_tup (ema_cons (P1 := fun d => d = .str "wait") (em_str rfl) fun d0 h0 => ema_cons (em_no rfl hB) fun d1 h1 => ema_nil ⟨ok20, ?_⟩)
      obtain ⟨i, rfl, h1, h2⟩ := h1
      subst h0
      refine ⟨"wait", _, rfl, words_both hkd (.inl rfl), ?_⟩
      show (decide (1 ≤ i) && decide (i ≤ 1000000000000000000000000000000)) = true
      rw [decide_eq_true h1, decide_eq_true h2]; rfl
    refine m_when e3.j cmp (fun _ H4 e4 => fin rfl (e3.trans e4) ?_) fun hn1 H4 e4 => ?_
    · refine em_tup (ema_cons (P1 := fun d => d = .str "set") (em_str rfl) fun d0 h0 => ema_cons evr fun d1 h1 => ema_cons (em_drawN rfl hB) fun d2 h2 => ema_nil ⟨ok20, ?_⟩)
      obtain ⟨i, rfl, h2, h3⟩ := h2
      subst h0 h1
      refine ⟨"set", _, rfl, words_both hkd (.inr (.inl rfl)), ?_⟩
      show (vars.contains sv && isVal (.int i)) = true
      rw [hsv, isVal_of h2 h3]; rfl
    refine m_when e4.j cmp (fun _ H5 e5 => fin rfl (e3.trans (e4.trans e5)) ?_) fun hn2 H5 e5 => ?_
    · refine em_tup (ema_cons (P1 := fun d => d = .str "add") (em_str rfl) fun d0 h0 => ema_cons evr fun d1 h1 => ema_cons (em_no rfl hB) fun d2 h2 => ema_nil ⟨ok20, ?_⟩)
      subst h0 h1
      refine ⟨"add", _, rfl, words_both hkd (.inr (.inr rfl)), ?_⟩
      show (vars.contains sv && isTerm d2) = true
      rw [hsv, Bool.true_and]; exact h2
    have e35 := e3.trans (e4.trans e5)
    refine m_when e5.j (emt_test (em_eqS (K := K) (P2 := fun i => i = "collector") (P := fun c => c = decide (kind = "collector")) ek (em_str ⟨_, rfl, rfl⟩) fun i j hi hj => by rw [hi, hj])) (fun hc H6 e6 => fin rfl (e35.trans e6) ?_) fun hc H6 e6 => ?_
    · have hc : kind = "collector" := of_decide_eq_true hc.symm
      refine em_tup (ema_cons (P1 := fun d => d = .str "grow" ∨ d = .str "list") (em_ixL (P1 := fun ds => ds = [.str "grow", .str "list"]) (P2 := fun i => 0 ≤ i ∧ i < 2) (em_lst (ema_cons (P1 := fun d => d = .str "grow") (em_str rfl) fun _ h => ema_cons (P1 := fun d => d = .str "list") (em_str rfl) fun _ h' => ema_nil ⟨ok20, _, rfl, by rw [h, h']⟩)) (em_opI (P2 := fun i => i = 2) er (em_int ⟨_, rfl, rfl⟩) fun i j hi hj => by subst hj; exact ⟨by decide, by show 0 ≤ i % 2 ∧ i % 2 < 2; omega⟩) ?_) fun d0 h0 => ema_cons (em_no rfl hB) fun d1 h1 => ema_nil ⟨ok20, ?_⟩)
      · rintro ds i rfl hi
        exact at_two (P := fun d => d = .str "grow" ∨ d = .str "list") hi (.inl rfl) (.inr rfl)
      · rcases h0 with rfl | rfl
        · exact ⟨"grow", _, rfl, by rw [hc]; exact words_coll (.inl rfl), h1⟩
        · exact ⟨"list", _, rfl, by rw [hc]; exact words_coll (.inr rfl), h1⟩
    have hc : kind = "teller" := by
      rcases hkd with q | q
      · exact q
      · exact absurd q (of_decide_eq_false hc.symm)
    refine m_when e6.j (P := fun _ => True) (emt_and (P1 := fun _ => True) (EmT.imp eqt fun _ _ => trivial) (fun _ => emt_test (em_eqI (K := K) (P2 := fun _ => True) (em_drawN rfl hB) (em_int ⟨_, rfl, trivial⟩) fun _ _ _ _ => trivial)) fun _ => trivial) (fun _ H7 e7 => fin rfl (e35.trans (e6.trans e7)) ?_) fun _ H7 e7 => fin rfl (e35.trans (e6.trans e7)) ?_
    · refine em_tup (ema_cons (P1 := fun d => d = .str "answer") (em_str rfl) fun d0 h0 => ema_cons (em_drawN rfl hB) fun d1 h1 => ema_nil ⟨ok20, ?_⟩)
      obtain ⟨i, rfl, h2, h3⟩ := h1
      subst h0
      refine ⟨"answer", _, rfl, by rw [hc]; exact words_tell (.inl rfl), ?_⟩
      show (decide (0 ≤ i) && decide (i ≤ 1)) = true
      rw [decide_eq_true h2, decide_eq_true (by omega)]; rfl
    · refine em_tup (ema_cons (P1 := fun d => d = .str "ask") (em_str rfl) fun d0 h0 => ema_cons (P1 := IsS fun s => dirs.contains s = true) (em_ixS (P1 := fun s => s = "+-=") (em_str ⟨_, rfl, rfl⟩) (em_drawN rfl hB) fun s i hs hi => by subst hs; exact atI_dirs hi) fun d1 h1 => ema_cons (em_no rfl hB) fun d2 h2 => ema_cons evr fun d3 h3 => ema_nil ⟨ok20, ?_⟩)
      obtain ⟨sd, rfl, h1⟩ := h1
      subst h0 h3
      refine ⟨"ask", _, rfl, by rw [hc]; exact words_tell (.inr rfl), ?_⟩
      show (dirs.contains sd && (isTerm d2 && vars.contains sv)) = true
      have h2 : isTerm d2 = true := h2
      rw [h1, h2, hsv]; rfl
end

end Nt

namespace Nt
open PySem PySem.Spec PyProof.Rows L2 Evl
def spLaw (K : PySem.W.Frag) : Sp := fun vs H Q _ => ∃ (a : Addr) (ns : List Int), vs = [.ref a] ∧ SqL K H a (ns.map V.int) ∧ ns.length ≤ 63 ∧ ∀ H', Q (.bl true) H'
/-- a new bag keeps what stood -/
theorem bag_same {b : Addr} {H H' : Hp} (hb : H b = none) (e : Same H H') : Same H ((bagW b).wo H') := fun a o h => by
  have hn : a ≠ b := ne_of_none h hb
  unfold Wd.wo bagW
  dsimp only
  rw [if_neg]
  · exact e a o h
  · intro q; exact hn (eq_of_beq q)
theorem em_prog {W : Wd} {K : PySem.W.Frag} {σ : L2.St} {H : Hp} {te : TE} {E : XK} {P1 : PyData → Prop} {P : Bool → Prop} (h : Em W K te σ H P1) (hp : ∀ d, P1 d → Sm d ∧ P (isProg d)) : Em W K (tCall (spProg K) [] E (tCons te tNil)) σ H (IsB P) :=
  em_pure1 h fun v d H1 e hd p => ⟨.bl (isProg d), .bool (isProg d), spvProg (Wd.dp hd) (hp d p).1, fun H2 => .bl _, _, rfl, (hp d p).2⟩
theorem sumO_one (o : Option Int) : sumO [o] = o := by
  cases o with
  | none => rfl
  | some n => show some (n + 0) = some n; rw [Int.add_zero]
theorem sumO_nil : sumO [] = some 0 := rfl
theorem sumO_cons (o : Option Int) (l : List (Option Int)) : sumO (o :: l) = match o, sumO l with
    | some a, some b => some (a + b)
    | _, _ => none := by
  unfold sumO
  cases o with
  | none => rfl
  | some a =>
    rw [List.any_cons]
    show (if (false || l.any Option.isNone) = true then none else some (a + (l.map (·.getD 0)).sum)) = _
    rw [Bool.false_or]
    by_cases h : l.any Option.isNone = true
    · rw [if_pos h, if_pos h]
    · rw [if_neg h, if_neg h]
theorem sumO_append (k l : List (Option Int)) : sumO (k ++ l) = match sumO k, sumO l with
    | some a, some b => some (a + b)
    | _, _ => none := by
  induction k with
  | nil =>
    rw [List.nil_append, sumO_nil]
    cases sumO l with
    | none => rfl
    | some b => show _ = some (0 + b); rw [Int.zero_add]
  | cons o k ih =>
    rw [List.cons_append, sumO_cons, ih, sumO_cons]
    cases o with
    | none => rfl
    | some a =>
      cases sumO k with
      | none => rfl
      | some b =>
        cases sumO l with
        | none => rfl
        | some c => show some (a + (b + c)) = some (a + b + c); rw [Int.add_assoc]
theorem cntBody_nil (kind : Str) (f : Nat) : cntBody kind f (.tuple []) = some 0 := by cases f <;> rfl
theorem cntBody_S (kind : Str) (f : Nat) (ss : List PyData) : cntBody kind (f + 1) (.tuple ss) = sumO (ss.map (cntStmt kind (cntBody kind f))) := rfl
theorem Sm.of_atoms {xs : List PyData} (h : xs.length ≤ 20000) (ha : ∀ x, x ∈ xs → Sm x) : Sm (.tuple xs) := .tuple h ha
theorem sm_isOne {ns : List Str} {d : PyData} (h : isOne ns d = true) : Sm d := by
  cases d <;> first | exact .str _ | cases h
theorem sm_isVal {d : PyData} (h : isVal d = true) : Sm d := by
  cases d <;> first | exact .int _ | cases h
theorem sm_isTerm {d : PyData} (h : isTerm d = true) : Sm d := by
  rcases Bool.or_eq_true_iff.mp h with h | h
  · exact sm_isVal h
  · exact sm_isOne h
theorem all2 {P : PyData → Prop} {a b : PyData} (ha : P a) (hb : P b) : ∀ x, x ∈ [a, b] → P x := by
  intro x hx
  rcases List.mem_cons.mp hx with rfl | hx
  · exact ha
  · rw [List.mem_singleton.mp hx]; exact hb
theorem all3 {P : PyData → Prop} {a b c : PyData} (ha : P a) (hb : P b) (hc : P c) : ∀ x, x ∈ [a, b, c] → P x := by
  intro x hx
  rcases List.mem_cons.mp hx with rfl | hx
  · exact ha
  · exact all2 hb hc x hx
theorem all4 {P : PyData → Prop} {a b c d : PyData} (ha : P a) (hb : P b) (hc : P c) (hd : P d) : ∀ x, x ∈ [a, b, c, d] → P x := by
  intro x hx
  rcases List.mem_cons.mp hx with rfl | hx
  · exact ha
  · exact all3 hb hc hd x hx
theorem all1 {P : PyData → Prop} {a : PyData} (ha : P a) : ∀ x, x ∈ [a] → P x := by
  intro x hx
  rw [List.mem_singleton.mp hx]; exact ha
theorem sm_isCond {d : PyData} (h : isCond d = true) : Sm d := by
  unfold isCond at h
  split at h
  · obtain ⟨h1, h2⟩ := He.ba h
    obtain ⟨h2, h3⟩ := He.ba h2
    exact .tuple ok20 (all3 (sm_isOne h1) (sm_isOne h2) (sm_isTerm h3))
  · cases h
theorem chk_len {z : Str} {ps : List PyData} (h : chk z ps = true) : ps.length ≤ 3 ∧ ∀ x, x ∈ ps → Sm x := by
  unfold chk at h
  split at h
  · by_cases hl : ps.length = 2
    · obtain ⟨a, b, rfl⟩ := len2 hl
      obtain ⟨h1, h2⟩ := He.ba h
      exact ⟨by simp, all2 (sm_isOne h1) (sm_isVal h2)⟩
    · rw [pSet_len hl] at h; cases h
  · split at h
    · by_cases hl : ps.length = 2
      · obtain ⟨a, b, rfl⟩ := len2 hl
        obtain ⟨h1, h2⟩ := He.ba h
        exact ⟨by simp, all2 (sm_isOne h1) (sm_isTerm h2)⟩
      · rw [pAdd_len hl] at h; cases h
    · split at h
      · by_cases hl : ps.length = 1
        · obtain ⟨a, rfl⟩ := len1 hl
          refine ⟨by simp, all1 ?_⟩
          cases a <;> first | exact .int _ | cases h
        · rw [pWait_len hl] at h; cases h
      · split at h
        · by_cases hl : ps.length = 3
          · obtain ⟨a, b, c, rfl⟩ := len3 hl
            obtain ⟨h1, h2⟩ := He.ba h
            obtain ⟨h2, h3⟩ := He.ba h2
            exact ⟨by simp, all3 (sm_isOne h1) (sm_isTerm h2) (sm_isOne h3)⟩
          · rw [pAsk_len hl] at h; cases h
        · split at h
          · by_cases hl : ps.length = 1
            · obtain ⟨a, rfl⟩ := len1 hl
              refine ⟨by simp, all1 ?_⟩
              cases a <;> first | exact .int _ | cases h
            · rw [pAns_len hl] at h; cases h
          · by_cases hl : ps.length = 1
            · obtain ⟨a, rfl⟩ := len1 hl
              exact ⟨by simp, all1 (sm_isTerm h)⟩
            · rw [pTerm_len hl] at h; cases h
theorem okSimple.sm {kind : Str} {d : PyData} (h : okSimple kind d) : Sm d := by
  obtain ⟨z, ps, rfl, _, h⟩ := h
  obtain ⟨h1, h2⟩ := chk_len h
  refine .tuple (by rw [List.length_cons]; omega) fun x hx => ?_
  rcases List.mem_cons.mp hx with rfl | hx
  · exact .str _
  · exact h2 x hx
theorem words_noblk {kind z : Str} (h : (words kind).contains z = true) : isBlk z = false := by
  have hm : z ∈ words kind := List.contains_iff_mem.mp h
  unfold words wordsT wordsC at hm
  split at hm <;> simp only [List.mem_cons, List.not_mem_nil, or_false] at hm <;> rcases hm with q | q | q | q | q <;> (rw [q]; decide +kernel)
theorem okSimple.cnt {kind : Str} {d : PyData} (h : okSimple kind d) (cb : PyData → Option Int) : cntStmt kind cb d = some 1 := by
  obtain ⟨z, ps, rfl, h1, h2⟩ := h
  rw [cntStmt_one (words_noblk h1), h1, h2]; rfl
theorem simple_sum {kind : Str} {cb : PyData → Option Int} : ∀ {fs : List PyData}, (∀ d, d ∈ fs → okSimple kind d) → sumO (fs.map (cntStmt kind cb)) = some (fs.length : Int)
  | [], _ => rfl
  | d :: fs, h => by
    rw [List.map_cons, sumO_cons, (h d (List.mem_cons_self ..)).cnt, simple_sum fun x hx => h x (List.mem_cons_of_mem _ hx)]
    show some (1 + (fs.length : Int)) = some ((fs.length + 1 : Nat) : Int)
    congr 1; omega
theorem isProg_eq {kind : Str} {b : PyData} (h : okKind kind) : isProg (.tuple [.str kind, b]) = (match cntBody kind 4 b with
    | some n => decide (n ≤ 24)
    | none => false) := by
  have hz : (kind == "teller" || kind == "collector") = true := by rcases h with rfl | rfl <;> decide +kernel
  show ((kind == "teller" || kind == "collector") && _) = _
  rw [hz, Bool.true_and]
  all_goals rfl

end Nt

namespace Nt
open PySem PySem.Spec PyProof.Rows L2 Evl
/-! ### a program of drawn statements: body and statement call each other, the room counts them -/
/-- the room r holds n; b the bag of W -/
structure Rm (W : Wd) (b r : Addr) (n : Nat) (H : Hp) : Prop where
  hb : HasBag W b
  m : W.M r = false
  j : W.J H
  at_ : H r = some (.lst [.int (n : Int)])
abbrev RW (W : Wd) (r : Addr) (n : Nat) : Wd := W.plus r (.lst [.int (n : Int)])
theorem Rm.J {W : Wd} {b r : Addr} {n : Nat} {H : Hp} (h : Rm W b r n H) : (RW W r n).J H := ⟨h.j, h.at_⟩
theorem Rm.bag {W : Wd} {b r : Addr} {n : Nat} {H : Hp} (h : Rm W b r n H) : HasBag (RW W r n) b := h.hb.plus h.m
theorem Rm.le {W : Wd} {b r : Addr} {n : Nat} {H H' : Hp} (h : Rm W b r n H) (e : (RW W r n).Le H H') : Rm W b r n H' := ⟨h.hb, h.m, e.j.1, e.j.2⟩
theorem Rm.put {W : Wd} {b r : Addr} {n m : Nat} {H : Hp} (h : Rm W b r n H) : Rm W b r m (upd H r (.lst [.int (m : Int)])) :=
  ⟨h.hb, h.m, (Wd.plus_j (o := .lst [.int (m : Int)]) h.j h.m).1, upd_same⟩
def spBdy (K : PySem.W.Frag) (f : Nat) : Sp := fun vs H Q _ => ∃ (W : Wd) (b r : Addr) (n : Nat) (kind : Str) (most : Int), Rm W b r n H ∧ n ≤ 1000 ∧ okKind kind ∧ most ≤ 1000 ∧ vs = [.ref b, .str kind, .ref r, .int (5 - (f : Int)), .int most] ∧
  ∀ v d n' H', Same ((RW W r n).wo H) ((RW W r n).wo H') → Rm W b r n' H' → n' ≤ n → Dp K ((RW W r n).wo H') v d → Sm d → cntBody kind f d = some ((n : Int) - n') → Q v H'
def spSta (K : PySem.W.Frag) (f : Nat) : Sp := fun vs H Q _ => ∃ (W : Wd) (b r : Addr) (n : Nat) (kind : Str), Rm W b r n H ∧ n ≤ 1000 ∧ okKind kind ∧ vs = [.ref b, .str kind, .ref r, .int (4 - (f : Int))] ∧
  ∀ v d n' H', Same ((RW W r n).wo H) ((RW W r n).wo H') → Rm W b r n' H' → n' ≤ n → Dp K ((RW W r n).wo H') v d → Sm d → cntStmt kind (cntBody kind f) d = some (1 + ((n : Int) - n')) → Q v H'
theorem sumO_two (a b : Option Int) : sumO [a, b] = match a, b with
    | some x, some y => some (x + y)
    | _, _ => none := by
  rw [sumO_cons, sumO_one]
  all_goals (cases a <;> cases b <;> rfl)
section
variable {P : Program} {w : World} {K : PySem.W.Frag} {mg : Str → Option Value} {base : Heap}
theorem ok__law_statement (T : Txt w K mg) (f k : Nat) (hk4 : 4 ≤ k) (D__law_body : Def P w K mg base CX0 k "_law_body" ["_law_bag_here", "_law_kind_here", "_law_room", "_law_depth", "_law_most"] (spBdy K f)) : Def P w K mg base CX0 (k + 1) "_law_statement" ["_law_bag_here", "_law_kind_here", "_law_room", "_law_depth"] (spSta K f) := by
  have D__law_draw := ok__law_draw (P := P) (base := base) T
  have D__law_simple := ok__law_simple (P := P) (base := base) T
  have D__law_condition := ok__law_condition (P := P) (base := base) T
  refine mkDef T.F__law_statement T.g__law_statement sc__law_statement (fun _ _ _ _ _ _ us hl => match us, hl with | [_, _, _, _], _ => rfl) (fun vs H Q E h => ?_) (fun cdv A outer s H vs Q E hr h => ?_)
  · obtain ⟨W, b, r, n, kind, _, _, _, rfl, _⟩ := h; rfl
  · obtain ⟨W, b, r, n, kind, R, hn, hkd, rfl, kk⟩ := h
    refine ⟨_, (PSs.nox (pss_cons (ps_set (i := 4) sc__law_statement.nd rfl (Or.inl rfl) (pe_callD D__law_draw (hr.mono (by omega)) rfl pass0 (pa_cons (pv 0) (pa_cons pe_int pa_nil))))
      (pss_cons (ps_if (pt_cmpR op_gt (pv 4) pe_int (nomark _)) (pss_one (ps_ret (pe_callD D__law_simple (hr.mono (by omega)) rfl pass0 (pa_cons (pv 0) (pa_cons (pv 1) pa_nil))))) pss_nil)
      (pss_cons (ps_set (i := 5) sc__law_statement.nd rfl (Or.inl rfl) (pe_callD D__law_condition (hr.mono (by omega)) rfl pass0 (pa_cons (pv 0) pa_nil)))
      (pss_cons (ps_set (i := 6) sc__law_statement.nd rfl (Or.inl rfl) (pe_callD D__law_body (hr.mono (by omega)) rfl pass0 (pa_cons (pv 0) (pa_cons (pv 1) (pa_cons (pv 2) (pa_cons (pe_op op_add (pv 3) pe_int) (pa_cons pe_int pa_nil)))))))
      (pss_cons (ps_if (pt_cmpR op_eq (pv 4) pe_int (nomark _)) (pss_one (ps_ret (pe_tup (pa_cons pe_str (pa_cons (pv 5) (pa_cons (pv 6) pa_nil)))))) pss_nil)
      (pss_one (ps_ret (pe_tup (pa_cons pe_str (pa_cons (pv 5) (pa_cons (pv 6) (pa_cons (pe_callD D__law_body (hr.mono (by omega)) rfl pass0 (pa_cons (pv 0) (pa_cons (pv 1) (pa_cons (pv 2) (pa_cons (pe_op op_add (pv 3) pe_int) (pa_cons (pe_op op_mul pe_int (pe_op op_sub (pv 4) pe_int)) pa_nil)))))) pa_nil))))))))))))), ?_⟩
    refine m_asg (K := K) R.J (em_drawN rfl R.bag) ?_
    rintro v d H1 e1 hd1 ⟨x, rfl, hx0, hx7⟩
    cases dpI hd1
    have R1 := R.le e1
    refine m_when e1.j (emt_test (em_cmpI (K := K) (P1 := fun i => i = x) (P2 := fun i => i = 2) (P := fun c => c = decide (2 < x)) (em_var rfl (.int x) ⟨x, rfl, rfl⟩) (em_int ⟨_, rfl, rfl⟩) fun i j hi hj => by rw [hi, hj])) (fun _ H2 e2 => ?_) fun hlt H2 e2 => ?_
    · refine m_ret (K := K) (P := okSimple kind) e2.j (Em.imp (em_help (A' := fun ds => ds = [.str kind]) rfl R.bag (ema_cons (P1 := fun d => d = .str kind) (em_var rfl (.str kind) rfl) fun d hd => ema_nil (by rw [hd])) ?_) ?_) ?_
      · rintro ds rfl; exact ⟨kind, rfl, hkd⟩
      · rintro d ⟨ds, rfl, k2, e, h⟩
        have : k2 = kind := by injection e with e; injection e with e; exact e.symm
        rw [← this]; exact h
      · intro v d H3 e3 hd hs
        have e13 := e1.trans (e2.trans e3)
        refine kk v d n H3 e13.s (R.le e13) (Nat.le_refl _) hd hs.sm ?_
        rw [hs.cnt]
        congr 1; omega
    have hlt : ¬ (2 < x) := of_decide_eq_false hlt.symm
    refine m_asg (K := K) e2.j (em_no (G := condG) rfl R.bag) ?_
    intro vc c H3 e3 hc3 hc
    have e13 := e1.trans (e2.trans e3)
    have R3 := R.le e13
    -- first = body(..)
    refine c_asg (ea_cons (ev_var rfl) (ea_cons (ev_var rfl) (ea_cons (ev_var rfl) (ea_cons (ev_op (ev_var rfl) ev_c rv_I0) (ea_cons ev_c ea_nil))))) fun H4 e4 => ?_
    have le4 : (RW W r n).Le H3 H4 := .of_same e13.j e4
    have ed : (4 - (f : Int)) + 1 = 5 - (f : Int) := by omega
    refine ⟨W, b, r, n, kind, 4, R3.le le4, hn, hkd, by decide, by show [V.ref b, V.str kind, V.ref r, V.int ((4 - (f : Int)) + 1), V.int 4] = _; rw [ed], fun vf df n1 H5 s5 R5 hn1 hd5 hs5 hcnt5 => ?_⟩
    have hc5 : Dp K ((RW W r n).wo H5) vc c := dp_mono s5 (le4.dp hc3)
    have s05 : Same ((RW W r n).wo H) ((RW W r n).wo H5) := e13.s.trans (le4.s.trans s5)
    show tSeq (tIfS _ _ _) _ _ [some (.ref b), some (.str kind), some (.ref r), some (.int (4 - (f : Int))), some (.int x), some vc, some vf] H5
    refine m_when (W := RW W r n1) R5.J (emt_test (em_eqI (K := K) (P1 := fun i => i = x) (P2 := fun i => i = 0) (P := fun c => c = decide (x = 0)) (em_var rfl (.int x) ⟨x, rfl, rfl⟩) (em_int ⟨_, rfl, rfl⟩) fun i j hi hj => by rw [hi, hj])) (fun _ H6 e6 => ?_) fun hne H6 e6 => ?_
    · refine m_ret (W := RW W r n1) (K := K) (P := fun d => d = .tuple [.str "while", c, df]) e6.j (em_tup (ema_cons (P1 := fun d => d = .str "while") (em_str rfl) fun d0 h0 => ema_cons (P1 := fun d => d = c) (em_var rfl (e6.dp hc5) rfl) fun d1 h1 => ema_cons (P1 := fun d => d = df) (em_var rfl (e6.dp hd5) rfl) fun d2 h2 => ema_nil ⟨ok20, by rw [h0, h1, h2]⟩)) ?_
      rintro v d H7 e7 hd7 rfl
      have e57 := e6.trans e7
      refine kk v _ n1 H7 (s05.trans e57.s) (R5.le e57) hn1 hd7 (.tuple ok20 (all3 (.str _) (sm_isCond hc) hs5)) ?_
      rw [cntStmt_blk (by decide +kernel)]
      unfold cntBlock
      rw [if_pos ⟨by show 1 = nBod "while"; decide +kernel, hc⟩]
      show (sumO [cntBody kind f df]).map (1 + ·) = _
      rw [sumO_one, hcnt5]; rfl
    have hne : ¬ (x = 0) := of_decide_eq_false hne.symm
    -- return ('if', cond, first, body(..))
    have hc6 := e6.dp hc5
    have hd6 : Dp K ((RW W r n1).wo H6) vf df := e6.dp hd5
    have R6 := R5.le e6
    refine ⟨_, rfl, _, rfl, ?_⟩
    refine c_call (ea_cons (ev_var rfl) (ea_cons (ev_var rfl) (ea_cons (ev_var rfl) (ea_cons (ev_op (ev_var rfl) ev_c rv_I0) (ea_cons (ev_op ev_c (ev_op (ev_var rfl) ev_c rv_I0) (rv_I (.inl ⟨by decide, by decide⟩))) ea_nil))))) fun H7 e7 => ?_
    have le7 : (RW W r n1).Le H6 H7 := .of_same e6.j e7
    refine ⟨W, b, r, n1, kind, 4 * (x - 1), R6.le le7, by omega, hkd, by omega, by show [V.ref b, V.str kind, V.ref r, V.int ((4 - (f : Int)) + 1), V.int (4 * (x - 1))] = _; rw [ed], fun vg dg n2 H8 s8 R8 hn2 hd8 hs8 hcnt8 => ?_⟩
    have hc8 : Dp K ((RW W r n1).wo H8) vc c := dp_mono s8 (le7.dp hc6)
    have hd68 : Dp K ((RW W r n1).wo H8) vf df := dp_mono s8 (le7.dp hd6)
    refine ⟨sz_of (by show 4 ≤ 100000; decide), fun p hp => ?_⟩
    have hm := Wd.notM (W := RW W r n2) R8.J hp
    have le9 : (RW W r n2).Le H8 (upd H8 p (.tup [.str "if", vc, vf, vg])) := .new R8.J hp
    refine kk (.ref p) (.tuple [.str "if", c, df, dg]) n2 _ (s05.trans (e6.s.trans (le7.s.trans (s8.trans le9.s)))) (R8.le le9) (by omega) (.tup (st_of (Wd.wo_at (W := RW W r n2) hm upd_same)) (le9.dpAll (.cons (.str _) (.cons hc8 (.cons hd68 (.cons hd8 .nil)))))) (.tuple ok20 (all4 (.str _) (sm_isCond hc) hs5 hs8)) ?_
    rw [cntStmt_blk (by decide +kernel)]
    unfold cntBlock
    rw [if_pos ⟨by show 2 = nBod "if"; decide +kernel, hc⟩]
    show (sumO [cntBody kind f df, cntBody kind f dg]).map (1 + ·) = _
    rw [sumO_two, hcnt5, hcnt8]
    show some (1 + (((n : Int) - n1) + ((n1 : Int) - n2))) = _
    congr 1; omega
end

end Nt

namespace Nt
open PySem PySem.Spec PyProof.Rows L2 Evl
section
variable {P : Program} {w : World} {K : PySem.W.Frag} {mg : Str → Option Value} {base : Heap}
theorem sumO_snoc {l : List (Option Int)} {a b : Int} (h : sumO l = some a) : sumO (l ++ [some b]) = some (a + b) := by
  rw [sumO_append, h, sumO_one]
theorem cntBody_any {kind : Str} {f : Nat} {es : List PyData} {c : Int} (h : sumO (es.map (cntStmt kind (cntBody kind (f - 1)))) = some c) (h0 : f = 0 → es = []) : cntBody kind f (.tuple es) = some c := by
  cases f with
  | zero =>
    rw [h0 rfl] at h ⊢
    rw [cntBody_nil]
    exact h
  | succ f => exact h
theorem ok__law_body1 (T : Txt w K mg) (f k : Nat) (hk : 1 ≤ k) (sp : Sp) (hsp : ∀ f', f = f' + 1 → sp = spSta K f') (D__law_statement : Def P w K mg base CX0 k "_law_statement" ["_law_bag_here", "_law_kind_here", "_law_room", "_law_depth"] sp) : Def P w K mg base CX0 (k + 1) "_law_body" ["_law_bag_here", "_law_kind_here", "_law_room", "_law_depth", "_law_most"] (spBdy K f) := by
  have D__law_draw := ok__law_draw (P := P) (base := base) T
  refine mkDef T.F__law_body T.g__law_body sc__law_body (fun _ _ _ _ _ _ us hl => match us, hl with | [_, _, _, _, _], _ => rfl) (fun vs H Q E h => ?_) (fun cdv A outer s H vs Q E hr h => ?_)
  · obtain ⟨W, b, r, n, kind, most, _, _, _, _, rfl, _⟩ := h; rfl
  · obtain ⟨W, b, r, n, kind, most, R, hn, hkd, hmo, rfl, kk⟩ := h
    refine ⟨_, (PSs.nox (pss_cons (ps_set (i := 5) sc__law_body.nd rfl (Or.inl rfl) (pe_lst pa_nil))
      (pss_cons (ps_for PassesOwn.never rfl (pi_range1 (by rfl) T.m_range (pa_cons (pe_callD D__law_draw (hr.mono (by omega)) rfl pass0 (pa_cons (pv 0) (pa_cons (pe_callB (call_max2 rfl) (by rfl) T.m_max boot_max (pa_cons pe_int (pa_cons (pv 4) pa_nil))) pa_nil))) pa_nil)) (pg_name (i := 6) sc__law_body.nd rfl (Or.inl rfl)) (pss_one (ps_if (PW.pt (pw_and (pt_cmpR op_gt (pe_ix ix_list (pv 2) pe_int (fun _ _ => rfl)) pe_int (nomark _)) (pw_and1 (pt_cmpR op_lt (pv 3) pe_int (nomark _))))) (pss_cons (ps_asg (pe_op op_sub (pe_ix ix_list (pv 2) pe_int (fun _ _ => rfl)) pe_int) (pg_sub (pv 2) pe_int set_list))
      (pss_one (ps_expr (pe_bm PySem.F.plainAttrs_list PySem.F.slot_list_append PySem.F.type_list_append mt_append (pv 5) (pa_cons (pe_callD D__law_statement (hr.mono (by omega)) rfl pass0 (pa_cons (pv 0) (pa_cons (pv 1) (pa_cons (pv 2) (pa_cons (pv 3) pa_nil))))) pa_nil))))) pss_nil)))
      (pss_one (ps_ret (pe_callTy call_tuple_of (by rfl) T.m_tuple boot_tuple (pa_cons (pv 5) pa_nil))))))), ?_⟩
    refine q_asgL (el_lst ea_nil (by show 0 ≤ 100000; decide)) fun p H1 hp e1 hp1 => ?_
    have le1 : (RW W r n).Le H H1 := .of_same R.J e1
    have R1 := R.le le1
    have hmp : (RW W r n).M p = false := Wd.notM R.J hp
    have J1 : ((RW W r n).plus p (.lst [])).J H1 := ⟨R1.J, hp1⟩
    have hB1 : HasBag ((RW W r n).plus p (.lst [])) b := R.bag.plus hmp
    have hpr : p ≠ r := fun q => by rw [q, R.at_] at hp; cases hp
    have hWp : W.M p = false := by
      cases q : W.M p with
      | false => rfl
      | true =>
        have : (RW W r n).M p = true := by show (W.M p || p == r) = true; rw [q]; rfl
        rw [this] at hmp; cases hmp
    generalize hmx : (if most > 1 then most else 1) = mx
    have hmx1 : 1 ≤ mx ∧ mx ≤ 1000 := by rw [← hmx]; split <;> omega
    -- Same through everything but W, r, p
    refine m_forR (W := (RW W r n).plus p (.lst [])) (K := K) (Pn := fun m => 0 ≤ m ∧ m < 1000) J1 (ema_cons (P1 := IsI fun m => 0 ≤ m ∧ m < 1000) (Em.imp (em_draw (P := fun m => m = mx) rfl hB1 (em_of (v := .int mx) (d := .int mx) (fun H2 e2 => ev_is (ev_cb (ea_cons ev_c (ea_cons (ev_var rfl) ea_nil)) rc_max) (congrArg V.int hmx)) (fun H2 e2 => .int _) ⟨mx, rfl, by omega, by omega, rfl⟩)) ?_) fun d hd => ema_nil ?_) (fun m hm => by omega)
      (fun _ t σ' H' => ∃ (o6 : Option V) (n' : Nat) (acc : List V) (es : List PyData), σ' = [some (.ref b), some (.str kind), some (.ref r), some (.int (5 - (f : Int))), some (.int most), some (.ref p), o6] ∧ Same (((RW W r n).plus p (.lst [])).wo H1) (((RW W r n).plus p (.lst [])).wo H') ∧ Rm W b r n' H' ∧ n' ≤ n ∧ H' p = some (.lst acc) ∧ DpAll K (((RW W r n).plus p (.lst [])).wo H') acc es ∧ (∀ d, d ∈ es → Sm d) ∧ es.length ≤ t ∧ (f = 0 → es = []) ∧ sumO (es.map (cntStmt kind (cntBody kind (f - 1)))) = some ((n : Int) - n'))
      (fun m H2 hm e2 => ⟨none, n, [], [], rfl, e2.s, ⟨R.hb, R.m, e2.j.1.1, e2.j.1.2⟩, Nat.le_refl _, e2.j.2, .nil, (fun d hd => by cases hd), Nat.le_refl _, (fun _ => rfl), (by show some 0 = some ((n : Int) - n); congr 1; omega)⟩) ?_ ?_
    · rintro d ⟨x, rfl, m, rfl, h1, h2⟩; exact ⟨x, rfl, h1, by omega⟩
    · obtain ⟨x, rfl, h⟩ := hd; exact ⟨x, rfl, h⟩
    · rintro m t σ' H2 hm ht ⟨o6, n', acc, es, rfl, s2, R2, hn', hp2, hd2, hsm, hlen, h0, hsum⟩
      have hx2 : SqL K H2 r [.int (n' : Int)] := sq_of R2.at_
      refine s_when (et_and (a := decide (0 < (n' : Int))) (b := decide ((5 - (f : Int)) < 5)) (et_test (ev_op (ev_op (ev_var rfl) ev_c (rv_ixL hx2 at0)) ev_c rv_gt)) fun _ => et_test (ev_op (ev_var rfl) ev_c rv_lt)) ?_ ?_
      · intro hb H3 e3
        obtain ⟨hb1, hb2⟩ := He.ba hb
        have hb1 : 0 < (n' : Int) := of_decide_eq_true hb1
        have hb2 : 5 - (f : Int) < 5 := of_decide_eq_true hb2
        obtain ⟨f', rfl⟩ : ∃ f', f = f' + 1 := ⟨f - 1, by omega⟩
        cases hsp f' rfl
        have er3 := e3 r _ R2.at_
        have ep3 := e3 p _ hp2
        refine q_setL (j := 0) er3 (ev_op (ev_op (ev_var rfl) ev_c (rv_ixL (sq_of er3) at0)) ev_c rv_I0) (ev_var rfl) ev_c (by show 0 < 1; decide) fun H4 e4 => ?_
        have le3 : (RW W r n').Le H2 H4 := .of_same R2.J (e3.trans e4)
        have en : ((n' : Int) - 1) = ((n' - 1 : Nat) : Int) := by omega
        show tDrop _ _ _ (upd H4 r (.lst [.int ((n' : Int) - 1)]))
        rw [en]
        have R4 : Rm W b r (n' - 1) (upd H4 r (.lst [.int ((n' - 1 : Nat) : Int)])) := (R2.le le3).put
        have hp4 : upd H4 r (.lst [.int ((n' - 1 : Nat) : Int)]) p = some (.lst acc) := by rw [upd_ne hpr]; exact e4 p _ ep3
        have s4 : Same (((RW W r n).plus p (.lst [])).wo H2) (((RW W r n).plus p (.lst [])).wo (upd H4 r (.lst [.int ((n' - 1 : Nat) : Int)]))) := fun a u h => by
          obtain ⟨h1, hnp⟩ := Wd.plus_wo h
          obtain ⟨h2, hnr⟩ := Wd.plus_wo h1
          refine Wd.wo_plus (Wd.wo_plus ?_ hnr) hnp
          unfold Wd.wo at h2 ⊢
          split at h2
          · cases h2
          · rename_i q
            rw [if_neg q, upd_ne hnr]
            exact (e3.trans e4) a u h2
        generalize upd H4 r (.lst [.int ((n' - 1 : Nat) : Int)]) = H5 at R4 hp4 s4
        refine ⟨_, rfl, .inl ⟨rfl, _, SqL.of hp4⟩, ?_⟩
        refine c_call (ea_cons (ev_var rfl) (ea_cons (ev_var rfl) (ea_cons (ev_var rfl) (ea_cons (ev_var rfl) ea_nil)))) fun H6 e6 => ?_
        have hm6 : W.M p = false := hWp
        -- the statement is drawn while the list at p stands still
        have hBp : HasBag (W.plus p (.lst acc)) b := R.hb.plus hWp
        have hmr : (W.plus p (.lst acc)).M r = false := by
          show (W.M r || r == p) = false
          rw [R.m, Bool.false_or]
          exact beq_eq_false_iff_ne.mpr hpr.symm
        have ep6 := e6 p _ hp4
        have Rp : Rm (W.plus p (.lst acc)) b r (n' - 1) H6 := ⟨hBp, hmr, ⟨(R4.le (.of_same R4.J e6)).j, ep6⟩, e6 r _ R4.at_⟩
        have ed : (5 - ((f' + 1 : Nat) : Int)) = 4 - (f' : Int) := by omega
        refine ⟨W.plus p (.lst acc), b, r, n' - 1, kind, Rp, by omega, hkd, by show [V.ref b, V.str kind, V.ref r, V.int (5 - ((f' + 1 : Nat) : Int))] = _; rw [ed], fun v d n2 H7 s7 R7 hn2 hd7 hs7 hc7 => ?_⟩
        have hp7 : H7 p = some (.lst acc) := R7.j.2
        refine ⟨p, acc, v, rfl, rfl, hp7, sz_lt (by rw [dpAll_len hd2]; omega), ?_⟩
        -- both worlds hide the same addresses
        have wo_eq : ∀ (Hx : Hp), Same ((RW (W.plus p (.lst acc)) r (n' - 1)).wo Hx) (((RW W r n).plus p (.lst [])).wo Hx) := fun Hx a u h => by
          obtain ⟨h1, hnr⟩ := Wd.plus_wo h
          obtain ⟨h2, hnp⟩ := Wd.plus_wo h1
          exact Wd.wo_plus (Wd.wo_plus h2 hnr) hnp
        have wo_eq' : ∀ (Hx : Hp), Same (((RW W r n).plus p (.lst [])).wo Hx) ((RW (W.plus p (.lst acc)) r (n' - 1)).wo Hx) := fun Hx a u h => by
          obtain ⟨h1, hnp⟩ := Wd.plus_wo h
          obtain ⟨h2, hnr⟩ := Wd.plus_wo h1
          exact Wd.wo_plus (Wd.wo_plus h2 hnp) hnr
        have s56 : Same (((RW W r n).plus p (.lst [])).wo H5) (((RW W r n).plus p (.lst [])).wo H6) := fun a u h => by
          obtain ⟨h1, hnp⟩ := Wd.plus_wo h
          obtain ⟨h2, hnr⟩ := Wd.plus_wo h1
          refine Wd.wo_plus (Wd.wo_plus ?_ hnr) hnp
          unfold Wd.wo at h2 ⊢
          split at h2
          · cases h2
          · rename_i q
            rw [if_neg q]
            exact e6 a u h2
        have s67 : Same (((RW W r n).plus p (.lst [])).wo H6) (((RW W r n).plus p (.lst [])).wo H7) := (wo_eq' H6).trans (s7.trans (wo_eq H7))
        have s27 := s4.trans (s56.trans s67)
        refine ⟨_, n2, acc ++ [v], es ++ [d], rfl, s2.trans (s27.trans Wd.wo_upd), ?_, by omega, upd_same, ?_, ?_, by rw [List.length_append, List.length_singleton]; omega, (fun q => by omega), ?_⟩
        · refine ⟨R.hb, R.m, (Wd.plus_j (o := .lst (acc ++ [v])) R7.j.1 hWp).1, ?_⟩
          rw [upd_ne hpr.symm]; exact R7.at_
        · exact dpAll_mono Wd.wo_upd (dpAll_append (dpAll_mono s27 hd2) (.cons (dp_mono (wo_eq H7) hd7) .nil))
        · intro x hx
          rcases List.mem_append.mp hx with hx | hx
          · exact hsm x hx
          · rw [List.mem_singleton.mp hx]; exact hs7
        · rw [List.map_append, List.map_singleton]
          show sumO (es.map (cntStmt kind (cntBody kind (f' + 1 - 1))) ++ [cntStmt kind (cntBody kind f') d]) = _
          rw [hc7, sumO_snoc hsum]
          congr 1; omega
      · intro hb H3 e3
        have le3 : (RW W r n').Le H2 H3 := .of_same R2.J e3
        have s3 : Same (((RW W r n).plus p (.lst [])).wo H2) (((RW W r n).plus p (.lst [])).wo H3) := fun a u h => by
          obtain ⟨h1, hnp⟩ := Wd.plus_wo h
          exact Wd.wo_plus (le3.s a u h1) hnp
        exact ⟨_, n', acc, es, rfl, s2.trans s3, R2.le le3, hn', e3 p _ hp2, dpAll_mono s3 hd2, hsm, by omega, h0, hsum⟩
    · rintro m σ' H2 hm ⟨o6, n', acc, es, rfl, s2, R2, hn', hp2, hd2, hsm, hlen, h0, hsum⟩
      refine ⟨_, rfl, p, acc, rfl, .inl ⟨sq_of hp2, fun l hl => ?_⟩⟩
      have hml := Wd.notM (W := RW W r n') R2.J hl
      have le3 : (RW W r n').Le H2 (upd H2 l (.tup acc)) := .new R2.J hl
      have s02 : Same ((RW W r n).wo H) ((RW W r n).wo H2) := fun a u h => by
        have hap : a ≠ p := fun q => by
          have := Wd.wo_same (RW W r n) H a u h
          rw [q, hp] at this; cases this
        exact (Wd.plus_wo (s2 a u (Wd.wo_plus (le1.s a u h) hap))).1
      refine kk (.ref l) (.tuple es) n' _ (s02.trans le3.s) (R2.le le3) hn' (.tup (st_of (Wd.wo_at (W := RW W r n') hml upd_same)) (le3.dpAll (dpAll_mono (Wd.plus_same (ob := .lst [])) hd2))) (.tuple (by omega) hsm) (cntBody_any hsum h0)
end

end Nt

namespace Nt
open PySem PySem.Spec PyProof.Rows L2 Evl
section
variable {P : Program} {w : World} {K : PySem.W.Frag} {mg : Str → Option Value} {base : Heap}
theorem ok__law_body (T : Txt w K mg) : ∀ f : Nat, Def P w K mg base CX0 (5 + 2 * f) "_law_body" ["_law_bag_here", "_law_kind_here", "_law_room", "_law_depth", "_law_most"] (spBdy K f)
  | 0 => (ok__law_body1 T 0 1 (by decide) (fun _ _ _ _ => False) (fun f' h => by omega) (Def.idle 1 T.F__law_statement T.g__law_statement (fun _ _ _ _ _ _ us hl => match us, hl with | [_, _, _, _], _ => rfl))).mono (by decide)
  | f + 1 => (ok__law_body1 T (f + 1) (5 + 2 * f + 1) (by omega) (spSta K f) (fun f' h => by cases h; rfl) (ok__law_statement T f (5 + 2 * f) (by omega) (ok__law_body T f))).mono (by omega)
/-- a program of the kind with at most so many statements -/
def okProg (kind : Str) (most : Int) (d : PyData) : Prop := ∃ body n, d = .tuple [.str kind, body] ∧ cntBody kind 4 body = some n ∧ 0 ≤ n ∧ n ≤ most ∧ Sm d
def progA : List PyData → Prop := fun ds => ∃ (kind : Str) (most : Int), ds = [.str kind, .int most] ∧ okKind kind ∧ 0 ≤ most ∧ most ≤ 100
def progG : List PyData → PyData → Prop := fun ds d => ∃ (kind : Str) (most : Int), ds = [.str kind, .int most] ∧ okProg kind most d
theorem ok__law_program (T : Txt w K mg) : Def P w K mg base CX0 14 "_law_program" ["_law_bag_here", "_law_kind_here", "_law_most"] (spB K progA progG) := by
  have D__law_draw := ok__law_draw (P := P) (base := base) T
  have D__law_body := ok__law_body (P := P) (base := base) T 4
  refine mkDef T.F__law_program T.g__law_program sc__law_program (fun _ _ _ _ _ _ us hl => match us, hl with | [_, _, _], _ => rfl) (fun vs H Q E h => ?_) (fun cdv A outer s H vs Q E hr h => ?_)
  · obtain ⟨W, b, xs, ds, _, _, rfl, hd, ⟨kind, most, rfl, _⟩, _⟩ := h
    have := dpAll_len hd
    show xs.length + 1 = 3
    rw [this]; rfl
  · obtain ⟨W, b, xs, ds, hB, j, rfl, hd, ⟨kind, most, rfl, hkd, hm0, hm1⟩, k⟩ := h
    obtain ⟨x, y, rfl⟩ := len2 (dpAll_len hd)
    obtain ⟨_, _, e, hx, hy⟩ := dp2 hd
    cases e
    cases dpS hx
    cases dpI hy
    refine ⟨_, (PSs.nox (pss_cons (ps_set (i := 3) sc__law_program.nd rfl (Or.inl rfl) (pe_lst (pa_cons (pe_callD D__law_draw (hr.mono (by omega)) rfl pass0 (pa_cons (pv 0) (pa_cons (pe_op op_add (pv 2) pe_int) pa_nil))) pa_nil)))
      (pss_one (ps_ret (pe_tup (pa_cons (pv 1) (pa_cons (pe_callD D__law_body (hr.mono (by omega)) rfl pass0 (pa_cons (pv 0) (pa_cons (pv 1) (pa_cons (pv 3) (pa_cons pe_int (pa_cons (pe_ix ix_list (pe_lst (pa_cons pe_int (pa_cons (pe_op op_add (pv 2) pe_int) pa_nil))) (pe_callD D__law_draw (hr.mono (by omega)) rfl pass0 (pa_cons (pv 0) (pa_cons pe_int pa_nil))) (fun _ _ => rfl)) pa_nil)))))) pa_nil))))))), ?_⟩
    refine m_asg1 (K := K) (P := IsI fun r => 0 ≤ r ∧ r ≤ most) j (Em.imp (em_draw (P := fun m => m = most + 1) rfl hB (em_opI0 (P1 := fun i => i = most) (P2 := fun i => i = 1) (em_var rfl (.int most) ⟨_, rfl, rfl⟩) (em_int ⟨_, rfl, rfl⟩) fun i j hi hj => by subst hi hj; exact ⟨by omega, by omega, rfl⟩)) ?_) ?_
    · rintro d ⟨r, rfl, m, rfl, h1, h2⟩; exact ⟨r, rfl, h1, by omega⟩
    rintro v d H1 p e1 hd1 ⟨r, rfl, hr0, hr1⟩ hp
    cases dpI hd1
    obtain ⟨n, rfl⟩ : ∃ n : Nat, r = (n : Int) := ⟨r.toNat, by omega⟩
    have hm := Wd.notM e1.j hp
    have le2 : W.Le H1 (upd H1 p (.lst [.int (n : Int)])) := .new e1.j hp
    have R : Rm W b p n (upd H1 p (.lst [.int (n : Int)])) := ⟨hB, hm, le2.j, upd_same⟩
    have sW : Same (W.wo H1) ((RW W p n).wo (upd H1 p (.lst [.int (n : Int)]))) := (Wd.same_plus hp).trans Wd.wo_upd
    generalize upd H1 p (.lst [.int (n : Int)]) = H2 at le2 R sW
    -- return (kind, body(..))
    refine ⟨_, rfl, _, rfl, _, rfl, _, rfl, ?_⟩
    refine em_ixL (W := RW W p n) (K := K) (σ := [some (.ref b), some (.str kind), some (.int most), some (.ref p)]) (H := H2) (P := IsI fun m => m ≤ 1000) (P1 := fun ds => ∃ m : Int, ds = [.int 7, .int m] ∧ m ≤ 1000) (em_lst (ema_cons (P1 := fun d => d = .int 7) (em_int rfl) fun d0 h0 => ema_cons (P1 := IsI fun m => m ≤ 1000) (em_opI0 (P1 := fun i => i = most) (P2 := fun i => i = 1) (em_var rfl (.int most) ⟨_, rfl, rfl⟩) (em_int ⟨_, rfl, rfl⟩) fun i j hi hj => by show i + j ≤ 1000; omega) fun d1 h1 => ema_nil ⟨ok20, _, rfl, ?_⟩)) (em_drawN (i := 0) (m := 2) rfl R.bag) ?_ H2 (.refl R.J) _ fun v d H3 e3 hd3 pd => ?_
    · obtain ⟨m, rfl, h⟩ := h1; exact ⟨m, by rw [h0], h⟩
    · rintro ds i ⟨m, rfl, h⟩ hi
      exact at_two (P := IsI fun m => m ≤ 1000) hi ⟨7, rfl, by decide⟩ ⟨m, rfl, h⟩
    obtain ⟨mo, rfl, hmo⟩ := pd
    cases dpI hd3
    refine ⟨W, b, p, n, kind, mo, R.le e3, by omega, hkd, hmo, rfl, fun v d n' H4 s4 R4 hn4 hd4 hs4 hc4 => ?_⟩
    refine ⟨sz_of (by show 2 ≤ 100000; decide), fun q hq => ?_⟩
    have hmq := Wd.notM (W := W) R4.j hq
    have s14 : Same (W.wo H1) (W.wo H4) := sW.trans (e3.s.trans (s4.trans Wd.plus_same))
    have le4 : W.Le H H4 := ⟨e1.s.trans s14, R4.j⟩
    have le5 : W.Le H4 (upd H4 q (.tup [.str kind, v])) := .new R4.j hq
    exact k (.ref q) (.tuple [.str kind, d]) _ (le4.trans le5) (.tup (st_of (Wd.wo_at hmq upd_same)) (le5.dpAll (.cons (.str _) (.cons (dp_mono Wd.plus_same hd4) .nil)))) ⟨kind, most, rfl, d, _, rfl, hc4, by omega, by omega, .tuple ok20 (all2 (.str _) hs4)⟩
end

end Nt

namespace Nt
open PySem PySem.Spec PyProof.Rows L2 Evl
/-! ### the law's own look at a program -/
section
variable {K : PySem.W.Frag} {σ : L2.St} {H : Hp} {ta tb te tx ty : TE} {x : V}
theorem ev_inLs {ns : List Str} {s : Str} (ha : Ev ta σ H (.str s)) (hb : EvL tb σ H (ns.map V.str)) : Ev (tOp (rIn K false) ta tb) σ H (.bl (ns.contains s)) :=
  ev_is (ev_opL ha hb fun p H1 hp e => rv_isL (sq_of hp) rfl (flat_strs ns)) (by rw [in_strs])
theorem ev_niLs {ns : List Str} {s : Str} (ha : Ev ta σ H (.str s)) (hb : EvL tb σ H (ns.map V.str)) : Ev (tOp (rIn K true) ta tb) σ H (.bl (!ns.contains s)) :=
  ev_is (ev_opL ha hb fun p H1 hp e => rv_niL (sq_of hp) rfl (flat_strs ns)) (by rw [in_strs])
theorem el_two {a b : V} : EvL (tLst (tCons (tC a) (tCons (tC b) tNil))) σ H [a, b] := el_lst (ea_cons ev_c (ea_cons ev_c ea_nil)) (by show 2 ≤ 100000; decide)
theorem el_three {a b c : V} : EvL (tLst (tCons (tC a) (tCons (tC b) (tCons (tC c) tNil)))) σ H [a, b, c] := el_lst (ea_cons ev_c (ea_cons ev_c (ea_cons ev_c ea_nil))) (by show 3 ≤ 100000; decide)
theorem ev_dispGet {trs : List (TE × TE)} {kvs : List (Key × V)} {z : Str} (hp : ∀ (σ : L2.St) (H : Hp) (Q : List (V × V) → Hp → Prop), Q (kvs.map fun kv => (kV kv.1, kv.2)) H → tPairs trs σ H Q) (hl : kvs.length ≤ 15) (hz : Ev ty σ H (.str z)) (hx : Ev tx σ H x) : Ev (tDGet2 (tDisp trs) ty tx) σ H ((valV (mergeK [] kvs) (Sum.inr z)).getD x) := fun H1 e Q q => fun p hp1 => by
  refine hp σ _ _ ⟨upd_same, kvs, rfl, hl, p, rfl, .inl ⟨_, .inl upd_same⟩, ?_⟩
  have e2 : Ex H1 (upd (upd H1 p (.dK [])) p (.dK (mergeK [] kvs))) := by
    rw [upd_upd]; exact Ex.new hp1
  refine hz _ (e.trans e2) _ fun H3 e3 => hx H3 (e.trans (e2.trans e3)) _ fun H4 e4 => ⟨_, DGet.k (k := Sum.inr z) (e4 _ _ (e3 _ _ upd_same)), q H4 (e2.trans (e3.trans e4))⟩
end
def argTab : List (Key × V) := [(Sum.inr "set", .int 2), (Sum.inr "add", .int 2), (Sum.inr "wait", .int 1), (Sum.inr "ask", .int 3), (Sum.inr "answer", .int 1), (Sum.inr "grow", .int 1), (Sum.inr "list", .int 1)]
def nArg (z : Str) : Int := if z = "set" then 2 else if z = "add" then 2 else if z = "wait" then 1 else if z = "ask" then 3 else if z = "answer" then 1 else if z = "grow" then 1 else if z = "list" then 1 else -1
theorem inr_dec (a b : Str) : decide ((Sum.inr a : Key) = Sum.inr b) = decide (b = a) := by
  by_cases h : b = a
  · subst h; simp
  · rw [decide_eq_false h, decide_eq_false]
    intro q; injection q with q; exact h q.symm
theorem argTab_at (z : Str) : (valV (mergeK [] argTab) (Sum.inr z)).getD (.int (-1)) = .int (nArg z) := by
  have e : mergeK [] argTab = argTab := by decide +kernel
  rw [e]
  unfold valV argTab nArg
  simp only [List.find?_cons, inr_dec, List.find?_nil]
  by_cases h1 : z = "set"
  · rw [if_pos h1, decide_eq_true h1]; rfl
  rw [if_neg h1, decide_eq_false h1]
  by_cases h2 : z = "add"
  · rw [if_pos h2, decide_eq_true h2]; rfl
  rw [if_neg h2, decide_eq_false h2]
  by_cases h3 : z = "wait"
  · rw [if_pos h3, decide_eq_true h3]; rfl
  rw [if_neg h3, decide_eq_false h3]
  by_cases h4 : z = "ask"
  · rw [if_pos h4, decide_eq_true h4]; rfl
  rw [if_neg h4, decide_eq_false h4]
  by_cases h5 : z = "answer"
  · rw [if_pos h5, decide_eq_true h5]; rfl
  rw [if_neg h5, decide_eq_false h5]
  by_cases h6 : z = "grow"
  · rw [if_pos h6, decide_eq_true h6]; rfl
  rw [if_neg h6, decide_eq_false h6]
  by_cases h7 : z = "list"
  · rw [if_pos h7, decide_eq_true h7]; rfl
  rw [if_neg h7, decide_eq_false h7]; rfl
def spOne1 (K : PySem.W.Frag) : Sp := sp1 K fun d => .bl (isOne vars d)
/-- the law's checker of a simple statement -/
def lawSimple (kind z : Str) (ps : List PyData) : Bool := if (ps.length : Int) ≠ nArg z then false else if z = "set" then pSet ps else if z = "add" then pAdd ps else if z = "wait" then pWait ps else if z = "grow" ∨ z = "list" then decide (kind = "collector") && pTerm ps else if z = "answer" then decide (kind = "teller") && pAns ps else pAsk ps && decide (kind = "teller")
theorem lawSimple_eq {kind z : Str} (hk : okKind kind) (ps : List PyData) : lawSimple kind z ps = ((words kind).contains z && chk z ps) := by
  unfold lawSimple
  by_cases h1 : z = "set"
  · subst h1
    have hw := words_both hk (z := "set") (.inr (.inl rfl))
    rw [hw, Bool.true_and]
    by_cases hl : ps.length = 2
    · rw [if_neg (by rw [hl]; decide +kernel), if_pos rfl]; rfl
    · rw [if_pos (by show (ps.length : Int) ≠ 2; omega)]; exact (pSet_len hl).symm
  by_cases h2 : z = "add"
  · subst h2
    have hw := words_both hk (z := "add") (.inr (.inr rfl))
    rw [hw, Bool.true_and]
    by_cases hl : ps.length = 2
    · rw [if_neg (by rw [hl]; decide +kernel), if_neg h1, if_pos rfl]; rfl
    · rw [if_pos (by show (ps.length : Int) ≠ 2; omega)]; exact (pAdd_len hl).symm
  by_cases h3 : z = "wait"
  · subst h3
    have hw := words_both hk (z := "wait") (.inl rfl)
    rw [hw, Bool.true_and]
    by_cases hl : ps.length = 1
    · rw [if_neg (by rw [hl]; decide +kernel), if_neg h1, if_neg h2, if_pos rfl]; rfl
    · rw [if_pos (by show (ps.length : Int) ≠ 1; omega)]; exact (pWait_len hl).symm
  have hc3 : ∀ h4 : z ≠ "ask", ∀ h5 : z ≠ "answer", chk z ps = pTerm ps := fun h4 h5 => by
    unfold chk; rw [if_neg h1, if_neg h2, if_neg h3, if_neg h4, if_neg h5]
  by_cases h6 : z = "grow" ∨ z = "list"
  · have hch : chk z ps = pTerm ps := by rcases h6 with rfl | rfl <;> exact hc3 (by decide +kernel) (by decide +kernel)
    have hw : (words kind).contains z = decide (kind = "collector") := by
      rcases hk with rfl | rfl <;> rcases h6 with rfl | rfl <;> decide +kernel
    rw [hw, hch]
    by_cases hl : ps.length = 1
    · have hn : nArg z = 1 := by rcases h6 with rfl | rfl <;> decide +kernel
      rw [if_neg (by rw [hl, hn]; decide), if_neg h1, if_neg h2, if_neg h3, if_pos h6]
    · have hn : nArg z = 1 := by rcases h6 with rfl | rfl <;> decide +kernel
      rw [if_pos (by rw [hn]; omega), pTerm_len hl, Bool.and_false]
  by_cases h5 : z = "answer"
  · subst h5
    have hw : (words kind).contains ("answer" : Str) = decide (kind = "teller") := by rcases hk with rfl | rfl <;> decide +kernel
    rw [hw]
    by_cases hl : ps.length = 1
    · rw [if_neg (by rw [hl]; decide +kernel), if_neg h1, if_neg h2, if_neg h3, if_neg h6, if_pos rfl]; rfl
    · rw [if_pos (by show (ps.length : Int) ≠ 1; omega)]
      have : chk "answer" ps = pAns ps := rfl
      rw [this, pAns_len hl, Bool.and_false]
  by_cases h4 : z = "ask"
  · subst h4
    have hw : (words kind).contains ("ask" : Str) = decide (kind = "teller") := by rcases hk with rfl | rfl <;> decide +kernel
    rw [hw]
    have hch : chk "ask" ps = pAsk ps := rfl
    by_cases hl : ps.length = 3
    · rw [if_neg (by rw [hl]; decide +kernel), if_neg h1, if_neg h2, if_neg h3, if_neg h6, if_neg h5, hch, Bool.and_comm]
    · rw [if_pos (by show (ps.length : Int) ≠ 3; omega), hch, pAsk_len hl, Bool.and_false]
  · have hw : (words kind).contains z = false := by
      cases q : (words kind).contains z with
      | false => rfl
      | true =>
        have hm : z ∈ words kind := List.contains_iff_mem.mp q
        unfold words wordsT wordsC at hm
        split at hm <;> simp only [List.mem_cons, List.not_mem_nil, or_false] at hm <;> rcases hm with q | q | q | q | q <;> first | exact absurd q h1 | exact absurd q h2 | exact absurd q h3 | exact absurd q h4 | exact absurd q h5 | exact (h6 (Or.inl q)).elim | exact (h6 (Or.inr q)).elim
    have hn : nArg z = -1 := by
      unfold nArg
      rw [if_neg h1, if_neg h2, if_neg h3, if_neg h4, if_neg h5, if_neg fun q => h6 (.inl q), if_neg fun q => h6 (.inr q)]
    rw [hw, Bool.false_and, if_pos (by rw [hn]; omega)]
section
variable {P : Program} {w : World} {K : PySem.W.Frag} {mg : Str → Option Value} {base : Heap}
theorem ok__law_whole (T : Txt w K mg) : Def P w K mg base CX0 1 "_law_whole" ["_law_thing"] (sp1 K fun d => .bl (isI d)) := by
  refine mkDef T.F__law_whole T.g__law_whole sc__law_whole (fun _ _ _ _ _ _ us hl => match us, hl with | [_], _ => rfl) (fun vs H Q E h => ?_) (fun cdv A outer s H vs Q E hr h => ?_)
  · obtain ⟨v, d, rfl, _⟩ := h; rfl
  · obtain ⟨v, d, rfl, hd, k⟩ := h
    refine ⟨_, (PSs.nox (pss_one (ps_ret (pe_and (pe_callB call_isi (by rfl) T.m_isinstance boot_isinstance (pa_cons (pv 0) (pa_cons (pe_bltn (v := .ty "int") rfl T.m_int boot_int rfl) pa_nil))) (pe_one (pe_not (pe_callB call_isi (by rfl) T.m_isinstance boot_isinstance (pa_cons (pv 0) (pa_cons (pe_bltn (v := .ty "bool") rfl T.m_bool boot_bool rfl) pa_nil))))))))), ?_⟩
    refine s_ret (ev_is (ev_andV (ev_cb (ea_cons (ev_var rfl) (ea_cons ev_c ea_nil)) (isi_d hd (kit_int d))) fun _ => ev_notV (ev_cb (ea_cons (ev_var rfl) (ea_cons ev_c ea_nil)) (isi_d hd (kit_bool d)))) ?_) k
    cases d <;> rfl
theorem ok__law_is_variable (T : Txt w K mg) : Def P w K mg base CX0 1 "_law_is_variable" ["_law_thing"] (spOne1 K) := by
  refine mkDef T.F__law_is_variable T.g__law_is_variable sc__law_is_variable (fun _ _ _ _ _ _ us hl => match us, hl with | [_], _ => rfl) (fun vs H Q E h => ?_) (fun cdv A outer s H vs Q E hr h => ?_)
  · obtain ⟨v, d, rfl, _⟩ := h; rfl
  · obtain ⟨v, d, rfl, hd, k⟩ := h
    refine ⟨_, (PSs.nox (pss_one (ps_ret (pe_and (pe_callB call_isi (by rfl) T.m_isinstance boot_isinstance (pa_cons (pv 0) (pa_cons (pe_bltn (v := .ty "str") rfl T.m_str boot_str rfl) pa_nil))) (pe_one (pe_cmpR op_in_seq (pv 0) (pe_lst (pa_cons pe_str (pa_cons pe_str pa_nil))) (by rfl))))))), ?_⟩
    refine s_ret (ev_is (ev_andV (b := isOne vars d) (ev_cb (ea_cons (ev_var rfl) (ea_cons ev_c ea_nil)) (isi_d hd (kit_str d))) fun hs => ?_) ?_) k
    · obtain ⟨s, rfl, rfl⟩ := dp_strI hd hs
      exact ev_inLs (ns := vars) (ev_var rfl) el_two
    · cases d <;> rfl
theorem ok__law_is_term (T : Txt w K mg) : Def P w K mg base CX0 2 "_law_is_term" ["_law_thing"] (sp1 K fun d => .bl (isTerm d)) := by
  have D__law_whole := ok__law_whole (P := P) (base := base) T
  refine mkDef T.F__law_is_term T.g__law_is_term sc__law_is_term (fun _ _ _ _ _ _ us hl => match us, hl with | [_], _ => rfl) (fun vs H Q E h => ?_) (fun cdv A outer s H vs Q E hr h => ?_)
  · obtain ⟨v, d, rfl, _⟩ := h; rfl
  · obtain ⟨v, d, rfl, hd, k⟩ := h
    have k : ∀ H', Same H H' → Q (.bl (isTerm d)) H' := k
    refine ⟨_, (PSs.nox (pss_cons (ps_if (pt_val (pe_callB call_isi (by rfl) T.m_isinstance boot_isinstance (pa_cons (pv 0) (pa_cons (pe_bltn (v := .ty "str") rfl T.m_str boot_str rfl) pa_nil)))) (pss_one (ps_ret (pe_cmpR op_in_seq (pv 0) (pe_lst (pa_cons pe_str (pa_cons pe_str pa_nil))) (by rfl)))) pss_nil)
      (pss_one (ps_ret (pe_and (pe_callD D__law_whole (hr.mono (by omega)) rfl pass0 (pa_cons (pv 0) pa_nil)) (pe_one (pe_chain op_le op_lt pe_int (pv 0) pe_int))))))), ?_⟩
    refine q_when (et_B (ev_cb (ea_cons (ev_var rfl) (ea_cons ev_c ea_nil)) (isi_d hd (kit_str d)))) (fun hs H1 e => ?_) fun hs H1 e => ?_
    · obtain ⟨s, rfl, rfl⟩ := dp_strI hd hs
      exact s_ret (ev_inLs (ns := vars) (ev_var rfl) el_two) fun H2 e2 => k H2 (e.trans e2)
    · have hv : isTerm d = isVal d := by
        cases d <;> first | exact Bool.or_false _ | cases hs
      rw [hv] at k
      refine s_ret (ev_is (ev_andV (b := isVal d) (ev_call (ea_cons (ev_var rfl) ea_nil) (spv1 (dp_mono e hd))) fun hi => ?_) ?_) fun H2 e2 => k H2 (e.trans e2)
      · cases hd with
        | int i => exact ev_chain ev_c (ev_var rfl) rv_le (fun _ => ev_c) (fun _ => rv_lt)
        | _ => cases hi
      · cases d <;> rfl
theorem ok__law_is_condition (T : Txt w K mg) : Def P w K mg base CX0 3 "_law_is_condition" ["_law_thing"] (sp1 K fun d => .bl (isCond d)) := by
  have D__law_is_term := ok__law_is_term (P := P) (base := base) T
  have D__law_is_variable := ok__law_is_variable (P := P) (base := base) T
  refine mkDef T.F__law_is_condition T.g__law_is_condition sc__law_is_condition (fun _ _ _ _ _ _ us hl => match us, hl with | [_], _ => rfl) (fun vs H Q E h => ?_) (fun cdv A outer s H vs Q E hr h => ?_)
  · obtain ⟨v, d, rfl, _⟩ := h; rfl
  · obtain ⟨v, d, rfl, hd, k⟩ := h
    have k : ∀ H', Same H H' → Q (.bl (isCond d)) H' := k
    refine ⟨_, (PSs.nox (pss_cons (ps_if (PW.pt (pw_or (pt_not (pt_val (pe_callB call_isi (by rfl) T.m_isinstance boot_isinstance (pa_cons (pv 0) (pa_cons (pe_bltn (v := .ty "tuple") rfl T.m_tuple boot_tuple rfl) pa_nil))))) (pw_or (pt_cmpR op_ne (pe_callB call_len_seq (by rfl) T.m_len boot_len (pa_cons (pv 0) pa_nil)) pe_int (nomark _)) (pw_or1 (pt_not (pt_val (pe_callB call_isi (by rfl) T.m_isinstance boot_isinstance (pa_cons (pe_ix ix_tup (pv 0) pe_int (fun _ _ => rfl)) (pa_cons (pe_bltn (v := .ty "str") rfl T.m_str boot_str rfl) pa_nil))))))))) (pss_one (ps_ret pe_bl)) pss_nil)
      (pss_one (ps_ret (pe_and (pe_callD D__law_is_variable (hr.mono (by omega)) rfl pass0 (pa_cons (pe_ix ix_tup (pv 0) pe_int (fun _ _ => rfl)) pa_nil)) (pe_and (pe_cmpR op_in_seq (pe_ix ix_tup (pv 0) pe_int (fun _ _ => rfl)) (pe_lst (pa_cons pe_str (pa_cons pe_str (pa_cons pe_str pa_nil)))) (by rfl)) (pe_one (pe_callD D__law_is_term (hr.mono (by omega)) rfl pass0 (pa_cons (pe_ix ix_tup (pv 0) pe_int (fun _ _ => rfl)) pa_nil))))))))), ?_⟩
    cases ht : isTup d with
    | false =>
      refine q_when (b := true) (et_or (b := true) (et_not (et_B (ev_cb (ea_cons (ev_var rfl) (ea_cons ev_c ea_nil)) (isi_d hd ((kit_tup d).trans (congrArg some ht)))))) fun q => by cases q) (fun _ H1 e => s_ret ev_c fun H2 e2 => ?_) fun q => by cases q
      have := k H2 (e.trans e2)
      rw [isCond_not ht] at this
      exact this
    | true =>
      obtain ⟨a, xs, ds, rfl, rfl, hx, ha⟩ := dp_tupI hd ht
      have hn := dpAll_len ha
      by_cases hl : xs.length = 3
      · obtain ⟨x, y, z, rfl⟩ := len3 hl
        obtain ⟨dx, dy, dz, rfl, hx1, hx2, hx3⟩ := dp3 ha
        have hl0 : Ev (tOp rNe (tCB (rLenS K) (tCons (tVar 0) tNil)) (tC (.int 3))) [some (.ref a)] H (.bl false) := ev_op (ev_cb (ea_cons (ev_var rfl) ea_nil) (rc_lenT hx)) ev_c (rv_ne rfl)
        refine q_when (b := !isStr dy) (et_is (et_or (b := !isStr dy) (et_not (et_B (ev_cb (ea_cons (ev_var rfl) (ea_cons ev_c ea_nil)) (isi_d hd (kit_tup _))))) fun _ => et_or (a := false) (b := !isStr dy) (et_test hl0) fun _ => et_not (et_B (ev_cb (ea_cons (ev_op (ev_var rfl) ev_c (rv_ixT hx at1)) (ea_cons ev_c ea_nil)) (isi_d hx2 (kit_str dy))))) rfl) (fun hb H1 e => ?_) fun hb H1 e => ?_
        · refine s_ret ev_c fun H2 e2 => ?_
          have h2 : isOne comps dy = false := by cases dy <;> first | rfl | cases hb
          have := k H2 (e.trans e2)
          have hc : isCond (.tuple [dx, dy, dz]) = false := by
            show (isOne vars dx && (isOne comps dy && isTerm dz)) = false
            rw [h2, Bool.false_and, Bool.and_false]
          rw [hc] at this
          exact this
        · have hst : isStr dy = true := by
            cases q : isStr dy with
            | true => rfl
            | false => rw [q] at hb; cases hb
          obtain ⟨s, rfl, rfl⟩ := dp_strI hx2 hst
          have hxe := ex_t e hx
          exact s_ret (ev_andV (ev_call (ea_cons (ev_op (ev_var rfl) ev_c (rv_ixT hxe at0)) ea_nil) (spv1 (f := fun d => .bl (isOne vars d)) (dp_mono e hx1))) fun _ => ev_andV (ev_inLs (ns := comps) (ev_op (ev_var rfl) ev_c (rv_ixT hxe at1)) el_three) fun _ => ev_call (ea_cons (ev_op (ev_var rfl) ev_c (rv_ixT hxe at2)) ea_nil) (spv1 (dp_mono e hx3))) fun H2 e2 => k H2 (e.trans e2)
      · refine q_when (b := true) (et_or (b := true) (et_not (et_B (ev_cb (ea_cons (ev_var rfl) (ea_cons ev_c ea_nil)) (isi_d hd (kit_tup _))))) fun _ => et_or (a := true) (b := true) (et_is (et_test (ev_op (ev_cb (ea_cons (ev_var rfl) ea_nil) (rc_lenT hx)) ev_c (rv_ne rfl))) ((int_ne xs.length 3).trans (by rw [decide_eq_false hl]; rfl))) fun q => by cases q) (fun _ H1 e => s_ret ev_c fun H2 e2 => ?_) fun q => by cases q
        have := k H2 (e.trans e2)
        rw [isCond_len (by rw [← hn]; exact hl)] at this
        exact this
end

end Nt

namespace Nt
open PySem PySem.Spec PyProof.Rows L2 Evl
section
variable {K : PySem.W.Frag} {σ : L2.St} {H : Hp} {ta tb te tx ty : TE} {x : V}
theorem eu_slT {tl th : TO} {a : Addr} {xs : List V} {lo hi : Option Int} (h : Ev te σ H (.ref a)) (h1 : EvO tl σ H lo) (h2 : EvO th σ H hi) (hs : SqT K H a xs) (hn : ¬ (HT.sIx xs.length 0 lo = 0 ∧ HT.sIx xs.length xs.length hi = xs.length)) : EvU (tSl (rSlA K) te tl th) σ H (cutV xs lo hi) := fun H1 e Q q =>
  h H1 e _ fun H2 e2 => h1 H2 (e.trans e2) _ fun H3 e3 => h2 H3 (e.trans (e2.trans e3)) _ fun H4 e4 => ⟨a, xs, rfl, ex_t (e.trans (e2.trans (e3.trans e4))) hs, fun w => absurd w hn, fun _ p hp =>
    q p _ (fresh_back (e2.trans (e3.trans e4)) hp) (e2.trans (e3.trans (e4.trans (Ex.new hp)))) upd_same⟩
/-- over a new tuple -/
theorem el_mapNT {xs ys : List V} {tl : TE} {j : Nat} {vs : List Nat} (h : EvU tl σ H xs) (hl : ys.length = xs.length) (hz : xs.length ≤ 40000) (hw : ∀ x, wipe ((wipe σ vs).set j (some x)) vs = wipe σ vs)
    (he : ∀ (i : Nat) (x y : V) H1, Ex H H1 → xs[i]? = some x → ys[i]? = some y → Ev te ((wipe σ vs).set j (some x)) H1 y) :
    EvL (tLc (iTup K tl) (gName j) tYes te vs) σ H ys := fun H0 e Q q => h H0 e _ fun a H1 ha e1 hx => ⟨a, rfl, ⟨xs, st_of hx⟩, fun Dl hD =>
  lc_tup (xs := xs) (fun i H' => H1 Dl = none ∧ Ex H1 H' ∧ H' Dl = some (.lst (ys.take i))) ⟨hD, Ex.new hD, upd_same⟩ (fun i H' _ p => st_of (p.2.1 a _ hx)) (fun i x H' hi p => ⟨hw x, by
      obtain ⟨p1, p2, p3⟩ := p
      have hlt : i < xs.length := (List.getElem?_eq_some_iff.mp hi).1
      obtain ⟨y, hy⟩ : ∃ y, ys[i]? = some y := ⟨ys[i], List.getElem?_eq_getElem (by omega)⟩
      dsimp only [tYes]
      rw [if_pos rfl]
      refine he i x y H' ((e.trans e1).trans p2) hi hy H' (Ex.refl _) _ fun H2 e2 => ⟨ys.take i, e2 _ _ p3, sz_lt (by rw [List.length_take]; omega), p1, Ex.mut (p2.trans e2) p1, ?_⟩
      rw [upd_same, List.take_add_one, hy]
      rfl⟩)
    (fun H' p => q Dl H' (fresh_back e1 p.1) (e1.trans p.2.1) (by rw [p.2.2, ← hl, List.take_length]))⟩
theorem ev_eqS {s t : Str} (ha : Ev ta σ H (.str s)) : Ev (tOp rEq ta (tC (.str t))) σ H (.bl (decide (s = t))) := ev_is (ev_op ha ev_c (rv_eq rfl)) (by rw [dec_strV])
theorem cut1_not (x : V) (xs : List V) : ¬ (HT.sIx (x :: xs).length 0 (some 1) = 0 ∧ HT.sIx (x :: xs).length (x :: xs).length none = (x :: xs).length) := by
  intro h
  have h1 : HT.sIx (x :: xs).length 0 (some 1) = min 1 (x :: xs).length := HT.sIx_nat _ 0 1
  rw [h1, List.length_cons] at h
  omega
end
def spLs (K : PySem.W.Frag) : Sp := fun vs H Q _ => ∃ (kind z : Str) (a : Addr) (xr : List V) (dr : List PyData), vs = [.str kind, .ref a] ∧ SqT K H a (.str z :: xr) ∧ DpAll K H xr dr ∧ ∀ H', Same H H' → Q (.bl (lawSimple kind z dr)) H'
theorem pWait_eq {i : PyData} : pWait [i] = (isI i && (match i with | .int n => decide (1 ≤ n) && decide (n ≤ 1000000000000000000000000000000) | _ => false)) := by cases i <;> rfl
section
variable {P : Program} {w : World} {K : PySem.W.Frag} {mg : Str → Option Value} {base : Heap}
theorem ok__law_is_simple (T : Txt w K mg) : Def P w K mg base CX0 3 "_law_is_simple" ["_law_kind_here", "_law_thing"] (spLs K) := by
  have D__law_is_term := ok__law_is_term (P := P) (base := base) T
  have D__law_is_variable := ok__law_is_variable (P := P) (base := base) T
  have D__law_whole := ok__law_whole (P := P) (base := base) T
  refine mkDef T.F__law_is_simple T.g__law_is_simple sc__law_is_simple (fun _ _ _ _ _ _ us hl => match us, hl with | [_, _], _ => rfl) (fun vs H Q E h => ?_) (fun cdv A outer s H vs Q E hr h => ?_)
  · obtain ⟨_, _, _, _, _, rfl, _⟩ := h; rfl
  · obtain ⟨kind, z, a, xr, dr, rfl, hx, ha, k⟩ := h
    refine ⟨_, (PSs.nox (pss_cons (ps_set (i := 2) sc__law_is_simple.nd rfl (Or.inl rfl) (pe_ix ix_tup (pv 1) pe_int (fun _ _ => rfl)))
      (pss_cons (ps_set (i := 3) sc__law_is_simple.nd rfl (Or.inl rfl) (pe_slice sl_tupA (pv 1) (po_some pe_int) po_none))
      (pss_cons (ps_if (pt_cmpR op_ne (pe_callB call_len_seq (by rfl) T.m_len boot_len (pa_cons (pv 3) pa_nil)) (pe_dget2 (hu_of hr) (pe_disp (pps_cons pe_str pe_int (pps_cons pe_str pe_int (pps_cons pe_str pe_int (pps_cons pe_str pe_int (pps_cons pe_str pe_int (pps_cons pe_str pe_int (pps_cons pe_str pe_int pps_nil))))))) (by rfl) (by rfl) (fun z => by cases z) (by decide)) (pv 2) (pe_un un_neg pe_int) ⟨rfl, rfl, rfl, rfl⟩) (nomark _)) (pss_one (ps_ret pe_bl)) pss_nil)
      (pss_cons (ps_if (pt_cmpR op_eq (pv 2) pe_str (nomark _)) (pss_one (ps_ret (pe_and (pe_callD D__law_is_variable (hr.mono (by omega)) rfl pass0 (pa_cons (pe_ix ix_tup (pv 3) pe_int (fun _ _ => rfl)) pa_nil)) (pe_and (pe_callD D__law_whole (hr.mono (by omega)) rfl pass0 (pa_cons (pe_ix ix_tup (pv 3) pe_int (fun _ _ => rfl)) pa_nil)) (pe_one (pe_chain op_le op_lt pe_int (pe_ix ix_tup (pv 3) pe_int (fun _ _ => rfl)) pe_int)))))) pss_nil)
      (pss_cons (ps_if (pt_cmpR op_eq (pv 2) pe_str (nomark _)) (pss_one (ps_ret (pe_and (pe_callD D__law_is_variable (hr.mono (by omega)) rfl pass0 (pa_cons (pe_ix ix_tup (pv 3) pe_int (fun _ _ => rfl)) pa_nil)) (pe_one (pe_callD D__law_is_term (hr.mono (by omega)) rfl pass0 (pa_cons (pe_ix ix_tup (pv 3) pe_int (fun _ _ => rfl)) pa_nil)))))) pss_nil)
      (pss_cons (ps_if (pt_cmpR op_eq (pv 2) pe_str (nomark _)) (pss_one (ps_ret (pe_and (pe_callD D__law_whole (hr.mono (by omega)) rfl pass0 (pa_cons (pe_ix ix_tup (pv 3) pe_int (fun _ _ => rfl)) pa_nil)) (pe_one (pe_chain op_le op_le pe_int (pe_ix ix_tup (pv 3) pe_int (fun _ _ => rfl)) (pe_op op_pow pe_int pe_int)))))) pss_nil)
      (pss_cons (ps_if (pt_cmpR op_in_seq (pv 2) (pe_lst (pa_cons pe_str (pa_cons pe_str pa_nil))) (by rfl)) (pss_one (ps_ret (pe_and (pe_cmpR op_eq (pv 0) pe_str (nomark _)) (pe_one (pe_callD D__law_is_term (hr.mono (by omega)) rfl pass0 (pa_cons (pe_ix ix_tup (pv 3) pe_int (fun _ _ => rfl)) pa_nil)))))) pss_nil)
      (pss_cons (ps_if (pt_cmpR op_eq (pv 2) pe_str (nomark _)) (pss_one (ps_ret (pe_and (pe_cmpR op_eq (pv 0) pe_str (nomark _)) (pe_and (pe_callD D__law_whole (hr.mono (by omega)) rfl pass0 (pa_cons (pe_ix ix_tup (pv 3) pe_int (fun _ _ => rfl)) pa_nil)) (pe_one (pe_chain op_le op_le pe_int (pe_ix ix_tup (pv 3) pe_int (fun _ _ => rfl)) pe_int)))))) pss_nil)
      (pss_cons (ps_if (PW.pt (pw_or (pt_not (pt_val (pe_callB call_isi (by rfl) T.m_isinstance boot_isinstance (pa_cons (pe_ix ix_tup (pv 3) pe_int (fun _ _ => rfl)) (pa_cons (pe_bltn (v := .ty "str") rfl T.m_str boot_str rfl) pa_nil))))) (pw_or (pt_cmpR op_notIn_seq (pe_ix ix_tup (pv 3) pe_int (fun _ _ => rfl)) (pe_lst (pa_cons pe_str (pa_cons pe_str (pa_cons pe_str pa_nil)))) (by rfl)) (pw_or1 (pt_not (pt_val (pe_callD D__law_is_term (hr.mono (by omega)) rfl pass0 (pa_cons (pe_ix ix_tup (pv 3) pe_int (fun _ _ => rfl)) pa_nil)))))))) (pss_one (ps_ret pe_bl)) pss_nil)
      (pss_one (ps_ret (pe_and (pe_cmpR op_eq (pv 0) pe_str (nomark _)) (pe_one (pe_callD D__law_is_variable (hr.mono (by omega)) rfl pass0 (pa_cons (pe_ix ix_tup (pv 3) pe_int (fun _ _ => rfl)) pa_nil)))))))))))))))), ?_⟩
    refine q_asg (ev_op (ev_var rfl) ev_c (rv_ixT hx at0)) fun H1 e1 => ?_
    refine q_asgU (eu_slT (ev_var rfl) (eo_some ev_c) eo_none (ex_t e1 hx) (cut1_not _ _)) fun p H2 hp e2 hp2 => ?_
    have hp2 : H2 p = some (.tup xr) := by rw [hp2, cut1]; rfl
    have hn := dpAll_len ha
    have hdr : DpAll K H2 xr dr := dpAll_mono (e1.trans e2) ha
    have hq : SqT K H2 p xr := st_of hp2
    have k2 : ∀ H', Ex H2 H' → Q (.bl (lawSimple kind z dr)) H' := fun H' e' => k H' (e1.trans (e2.trans e'))
    refine q_when (b := !decide ((dr.length : Int) = nArg z)) (et_is (et_test (ev_op (ev_cb (ea_cons (ev_var rfl) ea_nil) (rc_lenT hq)) (ev_is (ev_dispGet (kvs := argTab) (fun _ _ _ h => h) (by decide) (ev_var rfl) (ev_un ev_c ru_neg)) (argTab_at z)) (rv_ne rfl))) (by rw [dec_intV, hn])) (fun hb H3 e3 => ?_) fun hb H3 e3 => ?_
    · have hne : ¬ ((dr.length : Int) = nArg z) := fun q => by rw [decide_eq_true q] at hb; cases hb
      refine s_ret ev_c fun H4 e4 => ?_
      have := k2 H4 (e3.trans e4)
      unfold lawSimple at this
      rw [if_pos hne] at this
      exact this
    have hlen : (dr.length : Int) = nArg z := by
      by_cases q : (dr.length : Int) = nArg z
      · exact q
      · rw [decide_eq_false q] at hb; cases hb
    have k3 : ∀ H', Ex H3 H' → Q (.bl (if z = "set" then pSet dr else if z = "add" then pAdd dr else if z = "wait" then pWait dr else if z = "grow" ∨ z = "list" then decide (kind = "collector") && pTerm dr else if z = "answer" then decide (kind = "teller") && pAns dr else pAsk dr && decide (kind = "teller"))) H' := fun H' e' => by
      have := k2 H' (e3.trans e')
      unfold lawSimple at this
      rw [if_neg (fun q => q hlen)] at this
      exact this
    have hq3 := ex_t e3 hq
    have hd3 := dpAll_mono e3 hdr
    clear k k2
    refine q_when (et_test (ev_eqS (ev_var rfl))) (fun hz H4 e4 => ?_) fun hz H4 e4 => ?_
    · have hz : z = "set" := of_decide_eq_true hz
      subst hz
      obtain ⟨x0, x1, rfl⟩ := len2 (show xr.length = 2 by rw [hn]; have : (dr.length : Int) = 2 := hlen; omega)
      obtain ⟨d0, d1, rfl, h0, h1⟩ := dp2 hd3
      have hq4 := ex_t e4 hq3
      refine s_ret (ev_is (ev_andV (ev_call (ea_cons (ev_op (ev_var rfl) ev_c (rv_ixT hq4 at0)) ea_nil) (spv1 (f := fun d => .bl (isOne vars d)) (dp_mono e4 h0))) fun _ => ev_andV (b := isVal d1) (ev_call (ea_cons (ev_op (ev_var rfl) ev_c (rv_ixT hq4 at1)) ea_nil) (spv1 (dp_mono e4 h1))) fun hi => ?_) ?_) fun H5 e5 => k3 H5 (e4.trans e5)
      · cases h1 with
        | int i => exact ev_chain ev_c (ev_op (ev_var rfl) ev_c (rv_ixT hq4 at1)) rv_le (fun _ => ev_c) (fun _ => rv_lt)
        | _ => cases hi
      · rw [if_pos rfl]
        show V.bl (isOne vars d0 && (isI d1 && isVal d1)) = .bl (isOne vars d0 && isVal d1)
        cases d1 <;> rfl
    have hz1 : ¬ z = "set" := of_decide_eq_false hz
    refine q_when (et_test (ev_eqS (ev_var rfl))) (fun hz H5 e5 => ?_) fun hz H5 e5 => ?_
    · have hz : z = "add" := of_decide_eq_true hz
      subst hz
      obtain ⟨x0, x1, rfl⟩ := len2 (show xr.length = 2 by rw [hn]; have : (dr.length : Int) = 2 := hlen; omega)
      obtain ⟨d0, d1, rfl, h0, h1⟩ := dp2 hd3
      have e45 := e4.trans e5
      have hq4 := ex_t e45 hq3
      refine s_ret (ev_andV (ev_call (ea_cons (ev_op (ev_var rfl) ev_c (rv_ixT hq4 at0)) ea_nil) (spv1 (f := fun d => .bl (isOne vars d)) (dp_mono e45 h0))) fun _ => ev_call (ea_cons (ev_op (ev_var rfl) ev_c (rv_ixT hq4 at1)) ea_nil) (spv1 (dp_mono e45 h1))) fun H6 e6 => ?_
      have := k3 H6 (e45.trans e6)
      rw [if_neg hz1, if_pos rfl] at this
      exact this
    have hz2 : ¬ z = "add" := of_decide_eq_false hz
    have e45 := e4.trans e5
    refine q_when (et_test (ev_eqS (ev_var rfl))) (fun hz H6 e6 => ?_) fun hz H6 e6 => ?_
    · have hz : z = "wait" := of_decide_eq_true hz
      subst hz
      obtain ⟨x0, rfl⟩ := len1 (show xr.length = 1 by rw [hn]; have : (dr.length : Int) = 1 := hlen; omega)
      obtain ⟨d0, rfl, h0⟩ := dp1 hd3
      have e46 := e45.trans e6
      have hq4 := ex_t e46 hq3
      refine s_ret (ev_is (ev_andV (b := pWait [d0]) (ev_call (ea_cons (ev_op (ev_var rfl) ev_c (rv_ixT hq4 at0)) ea_nil) (spv1 (dp_mono e46 h0))) fun hi => ?_) ?_) fun H7 e7 => k3 H7 (e46.trans e7)
      · cases h0 with
        | int i => exact ev_chain ev_c (ev_op (ev_var rfl) ev_c (rv_ixT hq4 at0)) rv_le (fun _ => ev_op ev_c ev_c (rv_I ⟨by decide, by decide, by decide⟩)) (fun _ => rv_le)
        | _ => cases hi
      · rw [if_neg hz1, if_neg hz2, if_pos rfl]
        cases d0 <;> rfl
    have hz3 : ¬ z = "wait" := of_decide_eq_false hz
    have e46 := e45.trans e6
    refine q_when (et_is (et_test (ev_inLs (ns := ["grow", "list"]) (ev_var rfl) el_two)) (b := decide (z = "grow" ∨ z = "list")) ?_) (fun hz H7 e7 => ?_) fun hz H7 e7 => ?_
    · rw [List.contains_eq_any_beq, List.any_cons, List.any_cons, List.any_nil, Bool.or_false]
      by_cases q1 : z = "grow"
      · subst q1; decide +kernel
      · by_cases q2 : z = "list"
        · subst q2; decide +kernel
        · rw [decide_eq_false (by intro q; rcases q with q | q; exact q1 q; exact q2 q), beq_eq_false_iff_ne.mpr q1, beq_eq_false_iff_ne.mpr q2]; rfl
    · have hz : z = "grow" ∨ z = "list" := of_decide_eq_true hz
      have hna : nArg z = 1 := by rcases hz with rfl | rfl <;> decide +kernel
      obtain ⟨x0, rfl⟩ := len1 (show xr.length = 1 by rw [hn]; rw [hna] at hlen; omega)
      obtain ⟨d0, rfl, h0⟩ := dp1 hd3
      have e47 := e46.trans e7
      have hq4 := ex_t e47 hq3
      refine s_ret (ev_andV (ev_eqS (ev_var rfl)) fun _ => ev_call (ea_cons (ev_op (ev_var rfl) ev_c (rv_ixT hq4 at0)) ea_nil) (spv1 (dp_mono e47 h0))) fun H8 e8 => ?_
      have := k3 H8 (e47.trans e8)
      rw [if_neg hz1, if_neg hz2, if_neg hz3, if_pos hz] at this
      exact this
    have hz4 : ¬ (z = "grow" ∨ z = "list") := of_decide_eq_false hz
    have e47 := e46.trans e7
    refine q_when (et_test (ev_eqS (ev_var rfl))) (fun hz H8 e8 => ?_) fun hz H8 e8 => ?_
    · have hz : z = "answer" := of_decide_eq_true hz
      subst hz
      obtain ⟨x0, rfl⟩ := len1 (show xr.length = 1 by rw [hn]; have : (dr.length : Int) = 1 := hlen; omega)
      obtain ⟨d0, rfl, h0⟩ := dp1 hd3
      have e48 := e47.trans e8
      have hq4 := ex_t e48 hq3
      refine s_ret (ev_is (ev_andV (ev_eqS (ev_var rfl)) fun _ => ev_andV (b := pAns [d0]) (ev_call (ea_cons (ev_op (ev_var rfl) ev_c (rv_ixT hq4 at0)) ea_nil) (spv1 (dp_mono e48 h0))) fun hi => ?_) ?_) fun H9 e9 => k3 H9 (e48.trans e9)
      · cases h0 with
        | int i => exact ev_chain ev_c (ev_op (ev_var rfl) ev_c (rv_ixT hq4 at0)) rv_le (fun _ => ev_c) (fun _ => rv_le)
        | _ => cases hi
      · rw [if_neg hz1, if_neg hz2, if_neg hz3, if_neg hz4, if_pos rfl]
        congr 2
        cases d0 <;> rfl
    have hz5 : ¬ z = "answer" := of_decide_eq_false hz
    have hz6 : z = "ask" := by
      by_cases q : z = "ask"
      · exact q
      · unfold nArg at hlen
        rw [if_neg hz1, if_neg hz2, if_neg hz3, if_neg q, if_neg hz5, if_neg fun q => hz4 (.inl q), if_neg fun q => hz4 (.inr q)] at hlen
        omega
    subst hz6
    have k4 : ∀ H', Ex H3 H' → Q (.bl (pAsk dr && decide (kind = "teller"))) H' := fun H' e' => by
      have := k3 H' e'
      rw [if_neg hz1, if_neg hz2, if_neg hz3, if_neg hz4, if_neg hz5] at this
      exact this
    clear k3
    obtain ⟨x0, x1, x2, rfl⟩ := len3 (show xr.length = 3 by rw [hn]; have : (dr.length : Int) = 3 := hlen; omega)
    obtain ⟨d0, d1, d2, rfl, h0, h1, h2⟩ := dp3 hd3
    have e48 := e47.trans e8
    have hq4 := ex_t e48 hq3
    refine q_when (b := !(isOne dirs d0 && isTerm d1)) (et_is (et_or (b := !(isOne dirs d0 && isTerm d1)) (et_not (et_B (ev_cb (ea_cons (ev_op (ev_var rfl) ev_c (rv_ixT hq4 at0)) (ea_cons ev_c ea_nil)) (isi_d (dp_mono e48 h0) (kit_str d0))))) fun hst => ?_) ?_) (fun hb H9 e9 => ?_) fun hb H9 e9 => ?_
    · have hst : isStr d0 = true := by
        cases q : isStr d0 with
        | true => rfl
        | false => rw [q] at hst; cases hst
      obtain ⟨s0, rfl, rfl⟩ := dp_strI h0 hst
      refine et_is (et_or (a := !dirs.contains s0) (b := !isTerm d1) (et_test (ev_niLs (ns := dirs) (ev_op (ev_var rfl) ev_c (rv_ixT hq4 at0)) el_three)) fun _ => et_not (et_B (ev_call (ea_cons (ev_op (ev_var rfl) ev_c (rv_ixT hq4 at1)) ea_nil) (spv1 (dp_mono e48 h1))))) ?_
      show (!dirs.contains s0 || !isTerm d1) = !(dirs.contains s0 && isTerm d1)
      rw [Bool.not_and]
    · cases d0 <;> first | rfl | (cases isTerm d1 <;> rfl)
    · refine s_ret ev_c fun H10 e10 => ?_
      have := k4 H10 (e48.trans (e9.trans e10))
      have hp : pAsk [d0, d1, d2] = false := by
        show (isOne dirs d0 && (isTerm d1 && isOne vars d2)) = false
        rw [← Bool.and_assoc]
        cases q : (isOne dirs d0 && isTerm d1) with
        | false => rfl
        | true => rw [q] at hb; cases hb
      rw [hp, Bool.false_and] at this
      exact this
    · have hq9 := ex_t e9 hq4
      refine s_ret (ev_is (ev_andV (ev_eqS (ev_var rfl)) fun _ => ev_call (ea_cons (ev_op (ev_var rfl) ev_c (rv_ixT hq9 at2)) ea_nil) (spv1 (f := fun d => .bl (isOne vars d)) (dp_mono (e48.trans e9) h2))) ?_) fun H10 e10 => k4 H10 (e48.trans (e9.trans e10))
      show V.bl (decide (kind = "teller") && isOne vars d2) = .bl ((isOne dirs d0 && (isTerm d1 && isOne vars d2)) && decide (kind = "teller"))
      have hq : (isOne dirs d0 && isTerm d1) = true := by
        cases q : (isOne dirs d0 && isTerm d1) with
        | true => rfl
        | false => rw [q] at hb; cases hb
      rw [← Bool.and_assoc, hq, Bool.true_and, Bool.and_comm]
end

end Nt

namespace Nt
open PySem PySem.Spec PyProof.Rows L2 Evl
def spNo5 (K : PySem.W.Frag) : Sp := fun vs H Q _ => ∃ (kind : Str) (v : V) (d : PyData), okKind kind ∧ vs = [.str kind, v, .int 5] ∧ Dp K H v d ∧ ∀ H', Same H H' → Q .non H'
theorem cut2 (xs : List V) : cutV xs (some 2) none = xs.drop 2 := by
  unfold cutV
  have h1 : HT.sIx xs.length 0 (some 2) = min 2 xs.length := HT.sIx_nat xs.length 0 2
  rw [h1, HT.sIx_none]
  match xs with
  | [] => rfl
  | [x] => rfl
  | x :: y :: xs =>
    have h2 : min 2 (x :: y :: xs).length = 2 := by rw [List.length_cons, List.length_cons]; omega
    rw [h2, List.take_of_length_le]
    rw [List.length_drop]; omega
theorem cut2_not (x y : V) (xs : List V) : ¬ (HT.sIx (x :: y :: xs).length 0 (some 2) = 0 ∧ HT.sIx (x :: y :: xs).length (x :: y :: xs).length none = (x :: y :: xs).length) := by
  intro h
  have h1 : HT.sIx (x :: y :: xs).length 0 (some 2) = min 2 (x :: y :: xs).length := HT.sIx_nat _ 0 2
  rw [h1, List.length_cons, List.length_cons] at h
  omega
theorem isBlk_ls (z : Str) : (["if", "while"] : List Str).contains z = isBlk z := by
  rw [List.contains_eq_any_beq, List.any_cons, List.any_cons, List.any_nil, Bool.or_false]; rfl
theorem ev_pick {K : PySem.W.Frag} {σ : L2.St} {H : Hp} {te : TE} {b : Bool} (h : Ev te σ H (.bl b)) : Ev (tOp (rIxL K) (tLst (tCons (tC .non) (tCons (tC (.int 1)) tNil))) (tCB (fun xs H Q => (∃ i, xs = [V.int i] ∧ Q (.int i) H) ∨ ∃ k, xs = [V.bl k] ∧ Q (.int (if k then 1 else 0)) H) (tCons te tNil))) σ H (cV (if b = true then some 1 else none)) := by
  refine ev_opL1 el_two (fun H1 e => (ev_cb (ea_cons (h.mono e) ea_nil) rc_intB)) fun p H1 hp e => ?_
  cases b with
  | true => exact rv_ixL (sq_of hp) at1
  | false => exact rv_ixL (sq_of hp) at0
section
variable {P : Program} {w : World} {K : PySem.W.Frag} {mg : Str → Option Value} {base : Heap}
theorem ok__law_count_one5 (T : Txt w K mg) : Def P w K mg base CX0 4 "_law_count_one" ["_law_kind_here", "_law_thing", "_law_depth"] (spNo5 K) := by
  have D__law_count : Def P w K mg base CX0 0 "_law_count" ["_law_kind_here", "_law_body_here", "_law_depth"] (fun _ _ _ _ => False) := Def.idle 0 T.F__law_count T.g__law_count (fun _ _ _ _ _ _ us hl => match us, hl with | [_, _, _], _ => rfl)
  have D__law_is_simple := ok__law_is_simple (P := P) (base := base) T
  have D__law_is_condition := ok__law_is_condition (P := P) (base := base) T
  refine mkDef T.F__law_count_one T.g__law_count_one sc__law_count_one (fun _ _ _ _ _ _ us hl => match us, hl with | [_, _, _], _ => rfl) (fun vs H Q E h => ?_) (fun cdv A outer s H vs Q E hr h => ?_)
  · obtain ⟨_, _, _, _, rfl, _⟩ := h; rfl
  · obtain ⟨kind, v, d, hkd, rfl, hd, kk⟩ := h
    refine ⟨_, (PSs.nox (pss_cons (ps_if (PW.pt (pw_or (pt_not (pt_val (pe_callB call_isi (by rfl) T.m_isinstance boot_isinstance (pa_cons (pv 1) (pa_cons (pe_bltn (v := .ty "tuple") rfl T.m_tuple boot_tuple rfl) pa_nil))))) (pw_or (pt_cmpR op_eq (pe_callB call_len_seq (by rfl) T.m_len boot_len (pa_cons (pv 1) pa_nil)) pe_int (nomark _)) (pw_or (pt_not (pt_val (pe_callB call_isi (by rfl) T.m_isinstance boot_isinstance (pa_cons (pe_ix ix_tup (pv 1) pe_int (fun _ _ => rfl)) (pa_cons (pe_bltn (v := .ty "str") rfl T.m_str boot_str rfl) pa_nil))))) (pw_or1 (pt_cmpR op_gt (pv 2) pe_int (nomark _))))))) (pss_one (ps_ret pe_non)) pss_nil)
      (pss_cons (ps_if (pt_cmpR op_notIn_seq (pe_ix ix_tup (pv 1) pe_int (fun _ _ => rfl)) (pe_lst (pa_cons pe_str (pa_cons pe_str pa_nil))) (by rfl)) (pss_one (ps_ret (pe_ix ix_list (pe_lst (pa_cons pe_non (pa_cons pe_int pa_nil))) (pe_callTy call_int1 (by rfl) T.m_int boot_int (pa_cons (pe_callD D__law_is_simple (hr.mono (by omega)) rfl pass0 (pa_cons (pv 0) (pa_cons (pv 1) pa_nil))) pa_nil)) (fun _ _ => rfl)))) pss_nil)
      (pss_cons (ps_if (PW.pt (pw_or (pt_cmpR op_ne (pe_callB call_len_seq (by rfl) T.m_len boot_len (pa_cons (pv 1) pa_nil)) (pe_op op_add pe_int (pe_callTy call_int1 (by rfl) T.m_int boot_int (pa_cons (pe_cmpR op_eq (pe_ix ix_tup (pv 1) pe_int (fun _ _ => rfl)) pe_str (nomark _)) pa_nil))) (nomark _)) (pw_or1 (pt_not (pt_val (pe_callD D__law_is_condition (hr.mono (by omega)) rfl pass0 (pa_cons (pe_ix ix_tup (pv 1) pe_int (fun _ _ => rfl)) pa_nil))))))) (pss_one (ps_ret pe_non)) pss_nil)
      (pss_cons (ps_setLc (i := 3) (own := [("_law_body_here", 4)]) (by rfl) sc__law_count_one.nd rfl rfl (sw_true rfl rfl rfl (by decide +kernel)) (pi_tup (pe_slice sl_tupA (pv 1) (po_some pe_int) po_none)) (blkOk_by (own := [("_law_body_here", 4)]) (N := N__law_count_one) (sc := defScope s__law_count_one) (by decide +kernel)) (fun _ _ _ _ _ => (pg_name (i := 4) sc__law_count_one.nd rfl (Or.inl rfl))) (fun _ _ _ _ _ => pts_nil) (fun _ _ _ _ _ => (pe_callD D__law_count (hr.mono (by omega)) rfl pass0 (pa_cons (pv 0) (pa_cons (pv 4) (pa_cons (pe_op op_add (pv 2) pe_int) pa_nil))))))
      (pss_cons (ps_if (pt_cmpR op_in_seq pe_non (pv 3) (by rfl)) (pss_one (ps_ret pe_non)) pss_nil)
      (pss_one (ps_ret (pe_op op_add pe_int (pe_callB (cr_sum rfl) (by rfl) T.m_sum boot_sum (pa_cons (pv 3) pa_nil))))))))))), ?_⟩
    refine q_when (b := true) ?_ (fun _ H1 e => s_ret ev_c fun H2 e2 => kk H2 (e.trans e2)) fun q => by cases q
    cases ht : isTup d with
    | false => exact et_or (b := true) (et_not (et_B (ev_cb (ea_cons (ev_var rfl) (ea_cons ev_c ea_nil)) (isi_d hd ((kit_tup d).trans (congrArg some ht)))))) fun q => by cases q
    | true =>
      obtain ⟨a, xs, ds, rfl, rfl, hx, ha⟩ := dp_tupI hd ht
      cases ha with
      | nil => exact et_or (b := true) (et_not (et_B (ev_cb (ea_cons (ev_var rfl) (ea_cons ev_c ea_nil)) (isi_d hd (kit_tup _))))) fun _ => et_or (a := true) (b := true) (et_test (ev_op (ev_cb (ea_cons (ev_var rfl) ea_nil) (rc_lenT hx)) ev_c (rv_eq rfl))) fun q => by cases q
      | @cons x0 xr d0 dr h0 hr0 =>
        refine et_or (b := true) (et_not (et_B (ev_cb (ea_cons (ev_var rfl) (ea_cons ev_c ea_nil)) (isi_d hd (kit_tup _))))) fun _ => et_or (a := false) (b := true) (et_is (et_test (ev_op (ev_cb (ea_cons (ev_var rfl) ea_nil) (rc_lenT hx)) ev_c (rv_eq rfl))) ((int_eq (xr.length + 1) 0).trans rfl)) fun _ => et_is (et_or (b := true) (et_not (et_B (ev_cb (ea_cons (ev_op (ev_var rfl) ev_c (rv_ixT hx at0)) (ea_cons ev_c ea_nil)) (isi_d h0 (kit_str d0))))) fun _ => et_test (ev_op (ev_var rfl) ev_c rv_gt)) (Bool.or_true _)
theorem ok__law_count_one (T : Txt w K mg) (f k : Nat) (hk4 : 3 ≤ k) (D__law_count : Def P w K mg base CX0 k "_law_count" ["_law_kind_here", "_law_body_here", "_law_depth"] (spBod K f)) : Def P w K mg base CX0 (k + 1) "_law_count_one" ["_law_kind_here", "_law_thing", "_law_depth"] (spStm K f) := by
  have D__law_is_simple := ok__law_is_simple (P := P) (base := base) T
  have D__law_is_condition := ok__law_is_condition (P := P) (base := base) T
  refine mkDef T.F__law_count_one T.g__law_count_one sc__law_count_one (fun _ _ _ _ _ _ us hl => match us, hl with | [_, _, _], _ => rfl) (fun vs H Q E h => ?_) (fun cdv A outer s H vs Q E hr h => ?_)
  · obtain ⟨_, _, _, _, rfl, _⟩ := h; rfl
  · obtain ⟨kind, v, d, hkd, rfl, hd, hs, kk⟩ := h
    refine ⟨_, (PSs.nox (pss_cons (ps_if (PW.pt (pw_or (pt_not (pt_val (pe_callB call_isi (by rfl) T.m_isinstance boot_isinstance (pa_cons (pv 1) (pa_cons (pe_bltn (v := .ty "tuple") rfl T.m_tuple boot_tuple rfl) pa_nil))))) (pw_or (pt_cmpR op_eq (pe_callB call_len_seq (by rfl) T.m_len boot_len (pa_cons (pv 1) pa_nil)) pe_int (nomark _)) (pw_or (pt_not (pt_val (pe_callB call_isi (by rfl) T.m_isinstance boot_isinstance (pa_cons (pe_ix ix_tup (pv 1) pe_int (fun _ _ => rfl)) (pa_cons (pe_bltn (v := .ty "str") rfl T.m_str boot_str rfl) pa_nil))))) (pw_or1 (pt_cmpR op_gt (pv 2) pe_int (nomark _))))))) (pss_one (ps_ret pe_non)) pss_nil)
      (pss_cons (ps_if (pt_cmpR op_notIn_seq (pe_ix ix_tup (pv 1) pe_int (fun _ _ => rfl)) (pe_lst (pa_cons pe_str (pa_cons pe_str pa_nil))) (by rfl)) (pss_one (ps_ret (pe_ix ix_list (pe_lst (pa_cons pe_non (pa_cons pe_int pa_nil))) (pe_callTy call_int1 (by rfl) T.m_int boot_int (pa_cons (pe_callD D__law_is_simple (hr.mono (by omega)) rfl pass0 (pa_cons (pv 0) (pa_cons (pv 1) pa_nil))) pa_nil)) (fun _ _ => rfl)))) pss_nil)
      (pss_cons (ps_if (PW.pt (pw_or (pt_cmpR op_ne (pe_callB call_len_seq (by rfl) T.m_len boot_len (pa_cons (pv 1) pa_nil)) (pe_op op_add pe_int (pe_callTy call_int1 (by rfl) T.m_int boot_int (pa_cons (pe_cmpR op_eq (pe_ix ix_tup (pv 1) pe_int (fun _ _ => rfl)) pe_str (nomark _)) pa_nil))) (nomark _)) (pw_or1 (pt_not (pt_val (pe_callD D__law_is_condition (hr.mono (by omega)) rfl pass0 (pa_cons (pe_ix ix_tup (pv 1) pe_int (fun _ _ => rfl)) pa_nil))))))) (pss_one (ps_ret pe_non)) pss_nil)
      (pss_cons (ps_setLc (i := 3) (own := [("_law_body_here", 4)]) (by rfl) sc__law_count_one.nd rfl rfl (sw_true rfl rfl rfl (by decide +kernel)) (pi_tup (pe_slice sl_tupA (pv 1) (po_some pe_int) po_none)) (blkOk_by (own := [("_law_body_here", 4)]) (N := N__law_count_one) (sc := defScope s__law_count_one) (by decide +kernel)) (fun _ _ _ _ _ => (pg_name (i := 4) sc__law_count_one.nd rfl (Or.inl rfl))) (fun _ _ _ _ _ => pts_nil) (fun _ _ _ _ _ => (pe_callD D__law_count (hr.mono (by omega)) rfl pass0 (pa_cons (pv 0) (pa_cons (pv 4) (pa_cons (pe_op op_add (pv 2) pe_int) pa_nil))))))
      (pss_cons (ps_if (pt_cmpR op_in_seq pe_non (pv 3) (by rfl)) (pss_one (ps_ret pe_non)) pss_nil)
      (pss_one (ps_ret (pe_op op_add pe_int (pe_callB (cr_sum rfl) (by rfl) T.m_sum boot_sum (pa_cons (pv 3) pa_nil))))))))))), ?_⟩
    cases ht : isTup d with
    | false =>
      refine q_when (b := true) (et_or (b := true) (et_not (et_B (ev_cb (ea_cons (ev_var rfl) (ea_cons ev_c ea_nil)) (isi_d hd ((kit_tup d).trans (congrArg some ht)))))) fun q => by cases q) (fun _ H1 e => s_ret ev_c fun H2 e2 => ?_) fun q => by cases q
      have := kk H2 (e.trans e2)
      rw [cntStmt_not (fun z ps q => by rw [q] at ht; cases ht)] at this
      exact this
    | true =>
      obtain ⟨a, xs, ds, rfl, rfl, hx, ha⟩ := dp_tupI hd ht
      obtain ⟨hsz, hsm⟩ := hs.tupI
      cases ha with
      | nil =>
        exact q_when (b := true) (et_or (b := true) (et_not (et_B (ev_cb (ea_cons (ev_var rfl) (ea_cons ev_c ea_nil)) (isi_d hd (kit_tup _))))) fun _ => et_or (a := true) (b := true) (et_test (ev_op (ev_cb (ea_cons (ev_var rfl) ea_nil) (rc_lenT hx)) ev_c (rv_eq rfl))) fun q => by cases q) (fun _ H1 e => s_ret ev_c fun H2 e2 => kk H2 (e.trans e2)) fun q => by cases q
      | @cons x0 xr d0 dr h0 hr0 =>
        have hlr := dpAll_len hr0
        have hl0 : ∀ H1, Ex H H1 → Ev (tOp rEq (tCB (rLenS K) (tCons (tVar 1) tNil)) (tC (.int 0))) [some (.str kind), some (.ref a), some (.int (4 - (f : Int))), none, none] H1 (.bl false) := fun H1 e =>
          ev_is (ev_op (ev_cb (ea_cons (ev_var rfl) ea_nil) (rc_lenT (ex_t e hx))) ev_c (rv_eq rfl)) (congrArg V.bl ((int_eq (xr.length + 1) 0).trans rfl))
        refine q_when (b := !isStr d0) (et_is (et_or (b := !isStr d0) (et_not (et_B (ev_cb (ea_cons (ev_var rfl) (ea_cons ev_c ea_nil)) (isi_d hd (kit_tup _))))) fun _ => et_or (a := false) (b := !isStr d0) (et_test (hl0 H (Ex.refl _))) fun _ => et_is (et_or (b := false) (et_not (et_B (ev_cb (ea_cons (ev_op (ev_var rfl) ev_c (rv_ixT hx at0)) (ea_cons ev_c ea_nil)) (isi_d h0 (kit_str d0))))) fun _ => et_is (et_test (ev_op (ev_var rfl) ev_c rv_gt)) (decide_eq_false (by omega))) (Bool.or_false _)) rfl) ?_ ?_
        · intro hb H1 e
          refine s_ret ev_c fun H2 e2 => ?_
          have := kk H2 (e.trans e2)
          rw [cntStmt_not (fun z ps q => by
            injection q with q
            injection q with q1 q2
            rw [q1] at hb; cases hb)] at this
          exact this
        · intro hb H1 e
          have hst : isStr d0 = true := by
            cases q : isStr d0 with
            | true => rfl
            | false => rw [q] at hb; cases hb
          obtain ⟨z, rfl, rfl⟩ := dp_strI h0 hst
          have hx1 := ex_t e hx
          refine q_when (b := !isBlk z) (et_is (et_test (ev_niLs (ns := ["if", "while"]) (ev_op (ev_var rfl) ev_c (rv_ixT hx1 at0)) el_two)) (by rw [isBlk_ls])) (fun hz H2 e2 => ?_) fun hz H2 e2 => ?_
          · have hz : isBlk z = false := by
              cases q : isBlk z with
              | false => rfl
              | true => rw [q] at hz; cases hz
            refine s_ret (ev_pick (ev_call (ea_cons (ev_var rfl) (ea_cons (ev_var rfl) ea_nil)) (z := .bl (lawSimple kind z dr)) fun H3 e3 Q3 q3 E3 => ⟨kind, z, a, xr, dr, rfl, ex_t (e2.trans e3) hx1, dpAll_mono (e.trans (e2.trans e3)) hr0, fun H' e' => q3 H' e'⟩)) fun H3 e3 => ?_
            have := kk H3 (e.trans (e2.trans e3))
            rw [cntStmt_one hz, ← lawSimple_eq hkd] at this
            exact this
          · have hz : isBlk z = true := by
              cases q : isBlk z with
              | true => rfl
              | false => rw [q] at hz; cases hz
            have kk2 : ∀ H', Same H H' → Q (cV (cntBlock (cntBody kind f) z dr)) H' := fun H' e' => by
              have := kk H' e'
              rw [cntStmt_blk hz] at this
              exact this
            have hx2 := ex_t e2 hx1
            have e02 := e.trans e2
            have hnb : (3 : Int) + (if (decide (z = "if")) = true then 1 else 0) = ((nBod z + 2 : Nat) : Int) := by
              unfold nBod
              by_cases q : z = "if"
              · rw [decide_eq_true q, if_pos q]; decide
              · rw [decide_eq_false q, if_neg q]; decide
            have hcmp : ∀ H', Ex H2 H' → Ev (tOp rNe (tCB (rLenS K) (tCons (tVar 1) tNil)) (tOp (rI0 fun i j => .int (i + j)) (tC (.int 3)) (tCB (fun xs H Q => (∃ i, xs = [V.int i] ∧ Q (.int i) H) ∨ ∃ k, xs = [V.bl k] ∧ Q (.int (if k then 1 else 0)) H) (tCons (tOp rEq (tOp (rIxT K) (tVar 1) (tC (.int 0))) (tC (.str "if"))) tNil)))) [some (.str kind), some (.ref a), some (.int (4 - (f : Int))), none, none] H' (.bl (!decide (dr.length = nBod z + 1))) := fun H' e' =>
              ev_is (ev_op (ev_cb (ea_cons (ev_var rfl) ea_nil) (rc_lenT (ex_t e' hx2))) (ev_is (ev_op ev_c (ev_cb (ea_cons (ev_eqS (ev_op (ev_var rfl) ev_c (rv_ixT (ex_t e' hx2) at0))) ea_nil) rc_intB) rv_I0) (congrArg V.int hnb)) (rv_ne rfl)) (by
                rw [int_ne, List.length_cons, hlr]
                congr 2
                exact decide_eq_decide.mpr ⟨fun q => by omega, fun q => by omega⟩)
            by_cases hlen : dr.length = nBod z + 1
            · have hnb1 : 1 ≤ nBod z := by unfold nBod; split <;> omega
              obtain ⟨x1, xr, rfl⟩ : ∃ x1 xq, xr = x1 :: xq := by
                cases xr with
                | nil => rw [List.length_nil] at hlr; omega
                | cons x1 xq => exact ⟨x1, xq, rfl⟩
              cases hr0 with
              | @cons _ _ d1 dr h1 hr1 =>
                have hlr2 := dpAll_len hr1
                refine q_when (b := !isCond d1) (et_is (et_or (b := !isCond d1) (et_test (hcmp H2 (Ex.refl _))) fun _ => et_not (et_B (ev_call (ea_cons (ev_op (ev_var rfl) ev_c (rv_ixT hx2 at1)) ea_nil) (spv1 (dp_mono e02 h1))))) (by rw [decide_eq_true hlen]; rfl)) (fun hc H3 e3 => ?_) fun hc H3 e3 => ?_
                · refine s_ret ev_c fun H4 e4 => ?_
                  have := kk2 H4 (e02.trans (e3.trans e4))
                  unfold cntBlock at this
                  rw [if_neg (by intro q; have := q.2; rw [show (d1 :: dr).getD 0 PyData.none = d1 from rfl] at this; rw [this] at hc; cases hc)] at this
                  exact this
                · have hc : isCond d1 = true := by
                    cases q : isCond d1 with
                    | true => rfl
                    | false => rw [q] at hc; cases hc
                  have hl2 : ((d1 :: dr).drop 1).length = nBod z := by rw [List.drop_succ_cons, List.drop_zero]; rw [List.length_cons] at hlen; omega
                  have kk3 : ∀ H', Same H H' → Q (cV ((sumO (dr.map (cntBody kind f))).map (1 + ·))) H' := fun H' e' => by
                    have := kk2 H' e'
                    unfold cntBlock at this
                    rw [if_pos ⟨hl2, hc⟩] at this
                    exact this
                  have hx3 := ex_t e3 hx2
                  have e03 := e02.trans e3
                  refine q_asgL (el_mapNT (ys := (dr.map (cntBody kind f)).map cV) (eu_slT (ev_var rfl) (eo_some ev_c) eo_none hx3 (cut2_not _ _ _)) (by rw [cut2, List.length_map, List.length_map, ← hlr2]; rfl) (by rw [cut2]; show xr.length ≤ 40000; rw [hlr2]; rw [List.length_cons, List.length_cons] at hsz; omega) (fun x => rfl) fun i x y H4 e4 hi hy => ?_) fun q H4 hq e4 hq4 => ?_
                  · rw [cut2] at hi
                    obtain ⟨d, hd, hdx⟩ := dpAll_get (dpAll_mono (e03.trans e4) hr1) hi
                    rw [List.getElem?_map, List.getElem?_map, hd] at hy
                    cases hy
                    have ed : (4 - (f : Int)) + 1 = 5 - (f : Int) := by omega
                    exact ev_call (ea_cons (ev_var rfl) (ea_cons (ev_var rfl) (ea_cons (ev_is (ev_op (ev_var rfl) ev_c rv_I0) (congrArg V.int ed)) ea_nil))) (spvBod hkd hdx (hsm d (List.mem_cons_of_mem _ (List.mem_cons_of_mem _ (List.mem_of_getElem? hd)))))
                  · refine q_when (et_is (et_test (ev_op ev_c (ev_var rfl) (rv_isL (sq_of hq4) rfl (cV_flat _)))) (cV_none _)) (fun hno H5 e5 => ?_) fun hno H5 e5 => ?_
                    · refine s_ret ev_c fun H6 e6 => ?_
                      have := kk3 H6 (e03.trans (e4.trans (e5.trans e6)))
                      unfold sumO at this
                      rw [if_pos hno] at this
                      exact this
                    · rw [cV_some hno] at hq4
                      refine s_ret (ev_op ev_c (ev_cb (ea_cons (ev_var rfl) ea_nil) (rc_sum (sq_of (e5 _ _ hq4)))) rv_I0) fun H6 e6 => ?_
                      have := kk3 H6 (e03.trans (e4.trans (e5.trans e6)))
                      unfold sumO at this
                      rw [if_neg (by rw [hno]; exact Bool.false_ne_true)] at this
                      exact this
            · refine q_when (b := true) (et_or (b := true) (et_is (et_test (hcmp H2 (Ex.refl _))) (b := true) (by rw [decide_eq_false hlen]; rfl)) fun q => by cases q) (fun _ H3 e3 => ?_) fun q => by cases q
              refine s_ret ev_c fun H4 e4 => ?_
              have := kk2 H4 (e02.trans (e3.trans e4))
              unfold cntBlock at this
              have hnb1 : 1 ≤ nBod z := by unfold nBod; split <;> omega
              rw [if_neg fun q => hlen (by have := q.1; rw [List.length_drop] at this; omega)] at this
              exact this
end

end Nt

namespace Nt
open PySem PySem.Spec PyProof.Rows L2 Evl
section
variable {P : Program} {w : World} {K : PySem.W.Frag} {mg : Str → Option Value} {base : Heap}
theorem cntBody_z {kind : Str} {ds : List PyData} : cntBody kind 0 (.tuple ds) = sumO (ds.map fun _ => none) := by
  cases ds <;> rfl
theorem ok__law_count0 (T : Txt w K mg) : Def P w K mg base CX0 5 "_law_count" ["_law_kind_here", "_law_body_here", "_law_depth"] (spBod K 0) := by
  have D__law_count_one := ok__law_count_one5 (P := P) (base := base) T
  refine mkDef T.F__law_count T.g__law_count sc__law_count (fun _ _ _ _ _ _ us hl => match us, hl with | [_, _, _], _ => rfl) (fun vs H Q E h => ?_) (fun cdv A outer s H vs Q E hr h => ?_)
  · obtain ⟨_, _, _, _, rfl, _⟩ := h; rfl
  · obtain ⟨kind, v, d, hkd, rfl, hd, hs, kk⟩ := h
    refine ⟨_, (PSs.nox (pss_cons (ps_if (pt_not (pt_val (pe_callB call_isi (by rfl) T.m_isinstance boot_isinstance (pa_cons (pv 1) (pa_cons (pe_bltn (v := .ty "tuple") rfl T.m_tuple boot_tuple rfl) pa_nil))))) (pss_one (ps_ret pe_non)) pss_nil)
      (pss_cons (ps_setLc (i := 3) (own := [("_law_statement_here", 4)]) (by rfl) sc__law_count.nd rfl rfl (sw_true rfl rfl rfl (by decide +kernel)) (pi_tup (pv 1)) (blkOk_by (own := [("_law_statement_here", 4)]) (N := N__law_count) (sc := defScope s__law_count) (by decide +kernel)) (fun _ _ _ _ _ => (pg_name (i := 4) sc__law_count.nd rfl (Or.inl rfl))) (fun _ _ _ _ _ => pts_nil) (fun _ _ _ _ _ => (pe_callD D__law_count_one (hr.mono (by omega)) rfl pass0 (pa_cons (pv 0) (pa_cons (pv 4) (pa_cons (pv 2) pa_nil))))))
      (pss_cons (ps_if (pt_cmpR op_in_seq pe_non (pv 3) (by rfl)) (pss_one (ps_ret pe_non)) pss_nil)
      (pss_one (ps_ret (pe_callB (cr_sum rfl) (by rfl) T.m_sum boot_sum (pa_cons (pv 3) pa_nil)))))))), ?_⟩
    cases ht : isTup d with
    | false =>
      refine q_when (b := true) (et_not (et_B (ev_cb (ea_cons (ev_var rfl) (ea_cons ev_c ea_nil)) (isi_d hd ((kit_tup d).trans (congrArg some ht)))))) (fun _ H1 e => s_ret ev_c fun H2 e2 => ?_) fun q => by cases q
      have := kk H2 (e.trans e2)
      rw [cntBody_not ht] at this
      exact this
    | true =>
      obtain ⟨a, xs, ds, rfl, rfl, hx, ha⟩ := dp_tupI hd ht
      obtain ⟨hsz, hsm⟩ := hs.tupI
      have hn := dpAll_len ha
      rw [cntBody_z] at kk
      refine q_when (b := false) (et_not (et_B (ev_cb (ea_cons (ev_var rfl) (ea_cons ev_c ea_nil)) (isi_d hd (kit_tup _))))) (fun q => by cases q) fun _ H1 e => ?_
      refine q_asgL (el_mapT (ys := ((ds.map fun _ => none).map cV)) (ev_var rfl) (ex_t e hx) (by rw [List.length_map, List.length_map, hn]) (by omega) (fun x => rfl) fun i x y H3 e3 hi hy => ?_) fun q H3 hq e3 hq3 => ?_
      · obtain ⟨d, hd, hdx⟩ := dpAll_get (dpAll_mono (e.trans e3) ha) hi
        rw [List.getElem?_map, List.getElem?_map, hd] at hy
        cases hy
        exact ev_call (ea_cons (ev_var rfl) (ea_cons (ev_var rfl) (ea_cons (ev_var rfl) ea_nil))) (fun H4 e4 Q q E => ⟨kind, x, d, hkd, rfl, dp_mono e4 hdx, fun H' e' => q H' e'⟩)
      · refine q_when (et_is (et_test (ev_op ev_c (ev_var rfl) (rv_isL (sq_of hq3) rfl (cV_flat _)))) (cV_none _)) (fun hno H5 e5 => ?_) fun hno H5 e5 => ?_
        · refine s_ret ev_c fun H6 e6 => ?_
          have := kk H6 (e.trans (e3.trans (e5.trans e6)))
          unfold sumO at this
          rw [if_pos hno] at this
          exact this
        · rw [cV_some hno] at hq3
          refine s_ret (ev_cb (ea_cons (ev_var rfl) ea_nil) (rc_sum (sq_of (e5 _ _ hq3)))) fun H6 e6 => ?_
          have := kk H6 (e.trans (e3.trans (e5.trans e6)))
          unfold sumO at this
          rw [if_neg (by rw [hno]; exact Bool.false_ne_true)] at this
          exact this
theorem ok__law_countS (T : Txt w K mg) (f k : Nat) (D__law_count_one : Def P w K mg base CX0 k "_law_count_one" ["_law_kind_here", "_law_thing", "_law_depth"] (spStm K f)) : Def P w K mg base CX0 (k + 1) "_law_count" ["_law_kind_here", "_law_body_here", "_law_depth"] (spBod K (f + 1)) := by
  refine mkDef T.F__law_count T.g__law_count sc__law_count (fun _ _ _ _ _ _ us hl => match us, hl with | [_, _, _], _ => rfl) (fun vs H Q E h => ?_) (fun cdv A outer s H vs Q E hr h => ?_)
  · obtain ⟨_, _, _, _, rfl, _⟩ := h; rfl
  · obtain ⟨kind, v, d, hkd, rfl, hd, hs, kk⟩ := h
    have e5 : (5 - ((f + 1 : Nat) : Int)) = 4 - (f : Int) := by omega
    rw [e5]
    refine ⟨_, (PSs.nox (pss_cons (ps_if (pt_not (pt_val (pe_callB call_isi (by rfl) T.m_isinstance boot_isinstance (pa_cons (pv 1) (pa_cons (pe_bltn (v := .ty "tuple") rfl T.m_tuple boot_tuple rfl) pa_nil))))) (pss_one (ps_ret pe_non)) pss_nil)
      (pss_cons (ps_setLc (i := 3) (own := [("_law_statement_here", 4)]) (by rfl) sc__law_count.nd rfl rfl (sw_true rfl rfl rfl (by decide +kernel)) (pi_tup (pv 1)) (blkOk_by (own := [("_law_statement_here", 4)]) (N := N__law_count) (sc := defScope s__law_count) (by decide +kernel)) (fun _ _ _ _ _ => (pg_name (i := 4) sc__law_count.nd rfl (Or.inl rfl))) (fun _ _ _ _ _ => pts_nil) (fun _ _ _ _ _ => (pe_callD D__law_count_one (hr.mono (by omega)) rfl pass0 (pa_cons (pv 0) (pa_cons (pv 4) (pa_cons (pv 2) pa_nil))))))
      (pss_cons (ps_if (pt_cmpR op_in_seq pe_non (pv 3) (by rfl)) (pss_one (ps_ret pe_non)) pss_nil)
      (pss_one (ps_ret (pe_callB (cr_sum rfl) (by rfl) T.m_sum boot_sum (pa_cons (pv 3) pa_nil)))))))), ?_⟩
    cases ht : isTup d with
    | false =>
      refine q_when (b := true) (et_not (et_B (ev_cb (ea_cons (ev_var rfl) (ea_cons ev_c ea_nil)) (isi_d hd ((kit_tup d).trans (congrArg some ht)))))) (fun _ H1 e => s_ret ev_c fun H2 e2 => ?_) fun q => by cases q
      have := kk H2 (e.trans e2)
      rw [cntBody_not ht] at this
      exact this
    | true =>
      obtain ⟨a, xs, ds, rfl, rfl, hx, ha⟩ := dp_tupI hd ht
      obtain ⟨hsz, hsm⟩ := hs.tupI
      have hn := dpAll_len ha
      rw [cntBody_S] at kk
      refine q_when (b := false) (et_not (et_B (ev_cb (ea_cons (ev_var rfl) (ea_cons ev_c ea_nil)) (isi_d hd (kit_tup _))))) (fun q => by cases q) fun _ H1 e => ?_
      refine q_asgL (el_mapT (ys := ((ds.map (cntStmt kind (cntBody kind f))).map cV)) (ev_var rfl) (ex_t e hx) (by rw [List.length_map, List.length_map, hn]) (by omega) (fun x => rfl) fun i x y H3 e3 hi hy => ?_) fun q H3 hq e3 hq3 => ?_
      · obtain ⟨d, hd, hdx⟩ := dpAll_get (dpAll_mono (e.trans e3) ha) hi
        rw [List.getElem?_map, List.getElem?_map, hd] at hy
        cases hy
        exact ev_call (ea_cons (ev_var rfl) (ea_cons (ev_var rfl) (ea_cons (ev_var rfl) ea_nil))) (spvStm hkd hdx (hsm d (List.mem_of_getElem? hd)))
      · refine q_when (et_is (et_test (ev_op ev_c (ev_var rfl) (rv_isL (sq_of hq3) rfl (cV_flat _)))) (cV_none _)) (fun hno H5 e5 => ?_) fun hno H5 e5 => ?_
        · refine s_ret ev_c fun H6 e6 => ?_
          have := kk H6 (e.trans (e3.trans (e5.trans e6)))
          unfold sumO at this
          rw [if_pos hno] at this
          exact this
        · rw [cV_some hno] at hq3
          refine s_ret (ev_cb (ea_cons (ev_var rfl) ea_nil) (rc_sum (sq_of (e5 _ _ hq3)))) fun H6 e6 => ?_
          have := kk H6 (e.trans (e3.trans (e5.trans e6)))
          unfold sumO at this
          rw [if_neg (by rw [hno]; exact Bool.false_ne_true)] at this
          exact this
theorem ok__law_count (T : Txt w K mg) : ∀ f : Nat, Def P w K mg base CX0 (5 + 2 * f) "_law_count" ["_law_kind_here", "_law_body_here", "_law_depth"] (spBod K f)
  | 0 => (ok__law_count0 T).mono (by decide)
  | f + 1 => (ok__law_countS T f (5 + 2 * f + 1) (ok__law_count_one T f (5 + 2 * f) (by omega) (ok__law_count T f))).mono (by omega)
theorem kind_ls (z : Str) : (["teller", "collector"] : List Str).contains z = (z == "teller" || z == "collector") := by
  rw [List.contains_eq_any_beq, List.any_cons, List.any_cons, List.any_nil, Bool.or_false]
theorem ok__law_is_program (T : Txt w K mg) : Def P w K mg base CX0 14 "_law_is_program" ["_law_thing"] (spProg K) := by
  have D__law_count := ok__law_count (P := P) (base := base) T 4
  refine mkDef T.F__law_is_program T.g__law_is_program sc__law_is_program (fun _ _ _ _ _ _ us hl => match us, hl with | [_], _ => rfl) (fun vs H Q E h => ?_) (fun cdv A outer s H vs Q E hr h => ?_)
  · obtain ⟨_, _, rfl, _⟩ := h; rfl
  · obtain ⟨v, d, rfl, hd, hs, kk⟩ := h
    refine ⟨_, (PSs.nox (pss_cons (ps_if (PW.pt (pw_or (pt_not (pt_val (pe_callB call_isi (by rfl) T.m_isinstance boot_isinstance (pa_cons (pv 0) (pa_cons (pe_bltn (v := .ty "tuple") rfl T.m_tuple boot_tuple rfl) pa_nil))))) (pw_or (pt_cmpR op_ne (pe_callB call_len_seq (by rfl) T.m_len boot_len (pa_cons (pv 0) pa_nil)) pe_int (nomark _)) (pw_or1 (pt_not (pt_val (pe_callB call_isi (by rfl) T.m_isinstance boot_isinstance (pa_cons (pe_ix ix_tup (pv 0) pe_int (fun _ _ => rfl)) (pa_cons (pe_bltn (v := .ty "str") rfl T.m_str boot_str rfl) pa_nil))))))))) (pss_one (ps_ret pe_bl)) pss_nil)
      (pss_cons (ps_if (pt_cmpR op_notIn_seq (pe_ix ix_tup (pv 0) pe_int (fun _ _ => rfl)) (pe_lst (pa_cons pe_str (pa_cons pe_str pa_nil))) (by rfl)) (pss_one (ps_ret pe_bl)) pss_nil)
      (pss_cons (ps_set (i := 1) sc__law_is_program.nd rfl (Or.inl rfl) (pe_callD D__law_count (hr.mono (by omega)) rfl pass0 (pa_cons (pe_ix ix_tup (pv 0) pe_int (fun _ _ => rfl)) (pa_cons (pe_ix ix_tup (pv 0) pe_int (fun _ _ => rfl)) (pa_cons pe_int pa_nil)))))
      (pss_one (ps_ret (pe_and (pe_cmpR op_notN (pv 1) pe_non (nomark _)) (pe_one (pe_cmpR op_lt (pv 1) pe_int (nomark _)))))))))), ?_⟩
    cases ht : isTup d with
    | false =>
      refine q_when (b := true) (et_or (b := true) (et_not (et_B (ev_cb (ea_cons (ev_var rfl) (ea_cons ev_c ea_nil)) (isi_d hd ((kit_tup d).trans (congrArg some ht)))))) fun q => by cases q) (fun _ H1 e => s_ret ev_c fun H2 e2 => ?_) fun q => by cases q
      have := kk H2 (e.trans e2)
      rw [isProg_not ht] at this
      exact this
    | true =>
      obtain ⟨a, xs, ds, rfl, rfl, hx, ha⟩ := dp_tupI hd ht
      obtain ⟨hsz, hsm⟩ := hs.tupI
      have hn := dpAll_len ha
      by_cases hl : xs.length = 2
      · obtain ⟨x0, x1, rfl⟩ := len2 hl
        obtain ⟨d0, d1, rfl, h0, h1⟩ := dp2 ha
        have hl0 : Ev (tOp rNe (tCB (rLenS K) (tCons (tVar 0) tNil)) (tC (.int 2))) [some (.ref a), none] H (.bl false) := ev_op (ev_cb (ea_cons (ev_var rfl) ea_nil) (rc_lenT hx)) ev_c (rv_ne rfl)
        refine q_when (b := !isStr d0) (et_is (et_or (b := !isStr d0) (et_not (et_B (ev_cb (ea_cons (ev_var rfl) (ea_cons ev_c ea_nil)) (isi_d hd (kit_tup _))))) fun _ => et_or (a := false) (b := !isStr d0) (et_test hl0) fun _ => et_not (et_B (ev_cb (ea_cons (ev_op (ev_var rfl) ev_c (rv_ixT hx at0)) (ea_cons ev_c ea_nil)) (isi_d h0 (kit_str d0))))) rfl) (fun hb H1 e => ?_) fun hb H1 e => ?_
        · have hst : isStr d0 = false := by
            cases q : isStr d0 with
            | false => rfl
            | true => rw [q] at hb; cases hb
          refine s_ret ev_c fun H2 e2 => ?_
          have := kk H2 (e.trans e2)
          rw [isProg_str hst] at this
          exact this
        · have hst : isStr d0 = true := by
            cases q : isStr d0 with
            | true => rfl
            | false => rw [q] at hb; cases hb
          obtain ⟨z, rfl, rfl⟩ := dp_strI h0 hst
          have hx1 := ex_t e hx
          refine q_when (b := !(z == "teller" || z == "collector")) (et_is (et_test (ev_niLs (ns := ["teller", "collector"]) (ev_op (ev_var rfl) ev_c (rv_ixT hx1 at0)) el_two)) (by rw [kind_ls])) (fun hb H2 e2 => ?_) fun hb H2 e2 => ?_
          · refine s_ret ev_c fun H3 e3 => ?_
            have := kk H3 (e.trans (e2.trans e3))
            have hz : (z == "teller" || z == "collector") = false := by
              cases q : (z == "teller" || z == "collector") with
              | false => rfl
              | true => rw [q] at hb; cases hb
            have hp : isProg (.tuple [.str z, d1]) = false := by
              show ((z == "teller" || z == "collector") && _) = false
              rw [hz]; rfl
            rw [hp] at this
            exact this
          · have hz : (z == "teller" || z == "collector") = true := by
              cases q : (z == "teller" || z == "collector") with
              | true => rfl
              | false => rw [q] at hb; cases hb
            have hkd : okKind z := by
              rcases Bool.or_eq_true_iff.mp hz with q | q
              · exact .inl (eq_of_beq q)
              · exact .inr (eq_of_beq q)
            have hx2 := ex_t e2 hx1
            refine q_asg (ev_call (ea_cons (ev_op (ev_var rfl) ev_c (rv_ixT hx2 at0)) (ea_cons (ev_op (ev_var rfl) ev_c (rv_ixT hx2 at1)) (ea_cons ev_c ea_nil))) (spvBod (f := 4) hkd (dp_mono (e.trans e2) h1) (hsm _ (by simp)))) fun H3 e3 => ?_
            rw [isProg_eq hkd] at kk
            cases hc : cntBody z 4 d1 with
            | none =>
              rw [hc] at kk
              exact s_ret (ev_andV (a := false) (b := false) (ev_op (ev_var rfl) ev_c rv_notN) fun q => by cases q) fun H4 e4 => kk H4 (e.trans (e2.trans (e3.trans e4)))
            | some n =>
              rw [hc] at kk
              refine s_ret (ev_andV (a := true) (ev_op (ev_var rfl) ev_c rv_notN) fun _ => ev_op (ev_var rfl) ev_c rv_lt) fun H4 e4 => ?_
              have : Q (V.bl (decide (n ≤ 24))) H4 := kk H4 (e.trans (e2.trans (e3.trans e4)))
              rw [show decide (n ≤ 24) = decide (n < 25) from decide_eq_decide.mpr ⟨fun q => by omega, fun q => by omega⟩] at this
              exact this
      · refine q_when (b := true) (et_or (b := true) (et_not (et_B (ev_cb (ea_cons (ev_var rfl) (ea_cons ev_c ea_nil)) (isi_d hd (kit_tup _))))) fun _ => et_or (a := true) (b := true) (et_is (et_test (ev_op (ev_cb (ea_cons (ev_var rfl) ea_nil) (rc_lenT hx)) ev_c (rv_ne rfl))) ((int_ne xs.length 2).trans (by rw [decide_eq_false hl]; rfl))) fun q => by cases q) (fun _ H1 e => s_ret ev_c fun H2 e2 => ?_) fun q => by cases q
        have := kk H2 (e.trans e2)
        rw [isProg_len (by rw [← hn]; exact hl)] at this
        exact this
end

end Nt

namespace Nt
open PySem PySem.Spec PyProof.Rows L2 Evl
/-! ### lists written out, and their sums -/
def AllP (P : PyData → Prop) (n : Nat) (ds : List PyData) : Prop := ds.length = n ∧ ∀ x, x ∈ ds → P x
section
variable {W : Wd} {K : PySem.W.Frag} {σ : L2.St} {H : Hp} {te : TE} {ta tr : TA} {P : PyData → Prop} {D : Ends} {tz : TS}
theorem alls_nil : EmA W K tNil σ H (AllP P 0) := ema_nil ⟨rfl, fun _ h => by cases h⟩
theorem alls_cons {n : Nat} (h : Em W K te σ H P) (hr : EmA W K tr σ H (AllP P n)) : EmA W K (tCons te tr) σ H (AllP P (n + 1)) :=
  ema_cons h fun d hd => EmA.imp hr fun ds ⟨h1, h2⟩ => ⟨by rw [List.length_cons, h1], fun x hx => by
    rcases List.mem_cons.mp hx with rfl | hx
    · exact hd
    · exact h2 x hx⟩
theorem em_tupA {n : Nat} (h : EmA W K ta σ H (AllP Sm n)) (hn : Nat.ble n 20000 = true) : Em W K (tTup ta) σ H Sm :=
  em_tup (EmA.imp h fun ds ⟨h1, h2⟩ => ⟨by rw [h1]; exact Nat.le_of_ble_eq_true hn, .tuple (by rw [h1]; exact Nat.le_of_ble_eq_true hn) h2⟩)
theorem em_lstA {n : Nat} (h : EmA W K ta σ H (AllP Sm n)) (hn : Nat.ble n 20000 = true) : Em W K (tLst ta) σ H Sm :=
  em_lst (EmA.imp h fun ds ⟨h1, h2⟩ => ⟨by rw [h1]; exact Nat.le_of_ble_eq_true hn, .list (by rw [h1]; exact Nat.le_of_ble_eq_true hn) h2⟩)
theorem em_neg {i : Int} : Em W K (tUn (rU fun i => .int (-i)) (tC (.int i))) σ H Sm := fun H1 e Q q => ⟨i, rfl, q _ _ H1 (.refl e.j) (.int _) (.int _)⟩
theorem em_smI {P : Int → Prop} (h : Em W K te σ H (IsI P)) : Em W K te σ H Sm := h.imp fun d ⟨i, e, _⟩ => by rw [e]; exact .int _
/-- x = [..] -/
theorem m_asgLs {i : Nat} {P : List PyData → Prop} (j : W.J H) (h : EmA W K ta σ H P) (hp : ∀ ds, P ds → ds.length ≤ 20000) (k : ∀ p vs ds H1, W.Le H H1 → DpAll K (W.wo H1) vs ds → P ds → W.wo H1 p = some (.lst vs) → tz D (σ.set i (some (.ref p))) H1) : tSeq (tAsg (tLst ta) (gName i)) tz D σ H :=
  h H (.refl j) _ fun vs ds H1 e hds pd => ⟨sz_of (by rw [dpAll_len hds]; have := hp ds pd; omega), fun p hp => k p vs ds _ (e.trans (.new e.j hp)) ((Wd.Le.new e.j hp).dpAll hds) pd (Wd.wo_at (Wd.notM e.j hp) upd_same)⟩
/-- x = y + [..] -/
theorem m_catLs {i i2 : Nat} {l : Addr} {xs : List V} {P : List PyData → Prop} (j : W.J H) (hl : σ[i]? = some (some (.ref l))) (hx : W.wo H l = some (.lst xs)) (h : EmA W K ta σ H P) (hp : ∀ ds, P ds → xs.length + ds.length ≤ 20000) (k : ∀ p vs ds H1, W.Le H H1 → DpAll K (W.wo H1) vs ds → P ds → W.wo H1 p = some (.lst (xs ++ vs)) → tz D (σ.set i2 (some (.ref p))) H1) : tSeq (tAsg (tOp rCat (tVar i) (tLst ta)) (gName i2)) tz D σ H :=
  ⟨_, hl, h H (.refl j) _ fun vs ds H1 e hds pd => ⟨sz_of (by rw [dpAll_len hds]; have := hp ds pd; omega), fun q hq => by
    have hx1 : W.wo H1 l = some (.lst xs) := e.s l _ hx
    have hx1' : H1 l = some (.lst xs) := W.wo_same H1 l _ hx1
    have e2 : W.Le H1 (upd H1 q (.lst vs)) := .new e.j hq
    have hne : l ≠ q := fun z => by rw [z, hq] at hx1'; cases hx1'
    refine ⟨l, q, xs, vs, rfl, rfl, by rw [upd_ne hne]; exact hx1', upd_same, sz_of (by rw [dpAll_len hds]; have := hp ds pd; omega), fun p hpn => ?_⟩
    exact k p vs ds _ (e.trans (e2.trans (.new e2.j hpn))) ((e2.trans (.new e2.j hpn)).dpAll hds) pd (Wd.wo_at (Wd.notM e2.j hpn) upd_same)⟩⟩
end
theorem AllP.app {P : PyData → Prop} {n m : Nat} {as bs : List PyData} (ha : AllP P n as) (hb : AllP P m bs) : AllP P (n + m) (as ++ bs) :=
  ⟨by rw [List.length_append, ha.1, hb.1], fun x hx => by
    rcases List.mem_append.mp hx with hx | hx
    · exact ha.2 x hx
    · exact hb.2 x hx⟩
theorem AllP.at {P : PyData → Prop} {n : Nat} {ds : List PyData} {i : Int} (h : AllP P n ds) (h0 : 0 ≤ i) (h1 : i < n) : ∃ d, atI ds i = some d ∧ P d := by
  obtain ⟨k, rfl⟩ : ∃ k : Nat, i = (k : Int) := ⟨i.toNat, by omega⟩
  have hk : k < ds.length := by rw [h.1]; omega
  exact ⟨ds[k], atI_nat (List.getElem?_eq_getElem hk), h.2 _ (List.getElem_mem hk)⟩
def oddG : List PyData → PyData → Prop := fun _ d => Sm d
section
variable {P : Program} {w : World} {K : PySem.W.Frag} {mg : Str → Option Value} {base : Heap}
theorem ok__law_odd (T : Txt w K mg) : Def P w K mg base CX0 2 "_law_odd" ["_law_bag_here"] (spB K noA oddG) := by
  have D__law_draw := ok__law_draw (P := P) (base := base) T
  refine mkDef T.F__law_odd T.g__law_odd sc__law_odd (fun _ _ _ _ _ _ us hl => match us, hl with | [_], _ => rfl) (fun vs H Q E h => ?_) (fun cdv A outer s H vs Q E hr h => ?_)
  · obtain ⟨W, b, xs, ds, _, _, rfl, hd, rfl, _⟩ := h
    cases hd; rfl
  · obtain ⟨W, b, xs, ds, hB, j, rfl, hd, rfl, k⟩ := h
    cases hd
    refine ⟨_, (PSs.nox (pss_cons (ps_set (i := 1) sc__law_odd.nd rfl (Or.inl rfl) (pe_lst (pa_cons pe_non (pa_cons pe_bl (pa_cons pe_bl (pa_cons pe_int (pa_cons pe_int (pa_cons pe_int (pa_cons pe_int (pa_cons pe_int (pa_cons (pe_un un_neg pe_int) (pa_cons (pe_op op_pow pe_int pe_int) (pa_cons (pe_op op_add (pe_op op_pow pe_int pe_int) pe_int) (pa_cons pe_str (pa_cons pe_str (pa_cons pe_str (pa_cons pe_str (pa_cons pe_str (pa_cons pe_str (pa_cons pe_str (pa_cons pe_str pa_nil)))))))))))))))))))))
      (pss_cons (ps_set (i := 1) sc__law_odd.nd rfl (Or.inl rfl) (pe_op op_cat (pv 1) (pe_lst (pa_cons (pe_tup pa_nil) (pa_cons (pe_lst pa_nil) (pa_cons (pe_tup (pa_cons pe_str pa_nil)) (pa_cons (pe_tup (pa_cons pe_str (pa_cons pe_str (pa_cons pe_int pa_nil)))) (pa_cons (pe_lst (pa_cons pe_str (pa_cons pe_str (pa_cons pe_int pa_nil)))) (pa_cons (pe_tup (pa_cons pe_str (pa_cons pe_str (pa_cons pe_int pa_nil)))) (pa_cons (pe_tup (pa_cons pe_str (pa_cons pe_int pa_nil))) (pa_cons (pe_tup (pa_cons pe_str (pa_cons pe_str pa_nil))) pa_nil)))))))))))
      (pss_cons (ps_set (i := 1) sc__law_odd.nd rfl (Or.inl rfl) (pe_op op_cat (pv 1) (pe_lst (pa_cons (pe_tup (pa_cons pe_str (pa_cons pe_int pa_nil))) (pa_cons (pe_tup (pa_cons pe_str (pa_cons (pe_tup (pa_cons pe_str (pa_cons pe_str (pa_cons pe_int pa_nil)))) (pa_cons (pe_tup pa_nil) pa_nil)))) (pa_cons (pe_tup (pa_cons pe_str (pa_cons (pe_tup (pa_cons pe_str (pa_cons pe_str (pa_cons pe_int pa_nil)))) (pa_cons (pe_tup pa_nil) pa_nil)))) (pa_cons pe_str (pa_cons pe_str (pa_cons pe_str pa_nil)))))))))
      (pss_one (ps_ret (pe_ix ix_list (pv 1) (pe_callD D__law_draw (hr.mono (by omega)) rfl pass0 (pa_cons (pv 0) (pa_cons pe_int pa_nil))) (fun _ _ => rfl)))))))), ?_⟩
    refine m_asgLs (K := K) (P := AllP Sm 19) j ?_ (fun ds h => by rw [h.1]; decide) fun p vs ds H1 e1 hd1 h1 hp1 => ?_
    · (repeat' first | exact em_non Sm.none | exact em_bl (Sm.bool _) | exact em_int (Sm.int _) | exact em_str (Sm.str _) | exact em_neg | exact alls_nil | refine alls_cons ?_ ?_ | exact em_tupA (n := 0) alls_nil rfl | refine em_tupA (n := 1) (alls_cons ?_ alls_nil) rfl | refine em_tupA (n := 2) (alls_cons ?_ (alls_cons ?_ alls_nil)) rfl | refine em_tupA (n := 3) (alls_cons ?_ (alls_cons ?_ (alls_cons ?_ alls_nil))) rfl | refine em_tupA (n := 4) (alls_cons ?_ (alls_cons ?_ (alls_cons ?_ (alls_cons ?_ alls_nil)))) rfl | exact em_lstA (n := 0) alls_nil rfl | refine em_lstA (n := 1) (alls_cons ?_ alls_nil) rfl | refine em_lstA (n := 2) (alls_cons ?_ (alls_cons ?_ alls_nil)) rfl | refine em_lstA (n := 3) (alls_cons ?_ (alls_cons ?_ (alls_cons ?_ alls_nil))) rfl)
      · exact em_smI (em_pow (P := fun _ => True) ⟨by decide, by decide, by decide⟩ trivial)
      · exact em_smI (em_opI0 (P := fun _ => True) (P1 := fun _ => True) (P2 := fun _ => True) (em_pow ⟨by decide, by decide, by decide⟩ trivial) (em_int ⟨_, rfl, trivial⟩) fun _ _ _ _ => trivial)
    refine m_catLs (K := K) (P := AllP Sm 8) e1.j rfl hp1 ?_ (fun ds' h => by rw [h.1, dpAll_len hd1, h1.1]; decide) fun p2 vs2 ds2 H2 e2 hd2 h2 hp2 => ?_
    · (repeat' first | exact em_non Sm.none | exact em_bl (Sm.bool _) | exact em_int (Sm.int _) | exact em_str (Sm.str _) | exact em_neg | exact alls_nil | refine alls_cons ?_ ?_ | exact em_tupA (n := 0) alls_nil rfl | refine em_tupA (n := 1) (alls_cons ?_ alls_nil) rfl | refine em_tupA (n := 2) (alls_cons ?_ (alls_cons ?_ alls_nil)) rfl | refine em_tupA (n := 3) (alls_cons ?_ (alls_cons ?_ (alls_cons ?_ alls_nil))) rfl | refine em_tupA (n := 4) (alls_cons ?_ (alls_cons ?_ (alls_cons ?_ (alls_cons ?_ alls_nil)))) rfl | exact em_lstA (n := 0) alls_nil rfl | refine em_lstA (n := 1) (alls_cons ?_ alls_nil) rfl | refine em_lstA (n := 2) (alls_cons ?_ (alls_cons ?_ alls_nil)) rfl | refine em_lstA (n := 3) (alls_cons ?_ (alls_cons ?_ (alls_cons ?_ alls_nil))) rfl)
    refine m_catLs (K := K) (P := AllP Sm 6) e2.j rfl hp2 ?_ (fun ds' h => by rw [h.1, List.length_append, dpAll_len hd1, h1.1, dpAll_len hd2, h2.1]; decide) fun p3 vs3 ds3 H3 e3 hd3 h3 hp3 => ?_
    · (repeat' first | exact em_non Sm.none | exact em_bl (Sm.bool _) | exact em_int (Sm.int _) | exact em_str (Sm.str _) | exact em_neg | exact alls_nil | refine alls_cons ?_ ?_ | exact em_tupA (n := 0) alls_nil rfl | refine em_tupA (n := 1) (alls_cons ?_ alls_nil) rfl | refine em_tupA (n := 2) (alls_cons ?_ (alls_cons ?_ alls_nil)) rfl | refine em_tupA (n := 3) (alls_cons ?_ (alls_cons ?_ (alls_cons ?_ alls_nil))) rfl | refine em_tupA (n := 4) (alls_cons ?_ (alls_cons ?_ (alls_cons ?_ (alls_cons ?_ alls_nil)))) rfl | exact em_lstA (n := 0) alls_nil rfl | refine em_lstA (n := 1) (alls_cons ?_ alls_nil) rfl | refine em_lstA (n := 2) (alls_cons ?_ (alls_cons ?_ alls_nil)) rfl | refine em_lstA (n := 3) (alls_cons ?_ (alls_cons ?_ (alls_cons ?_ alls_nil))) rfl)
    have hall := (h1.app h2).app h3
    have hdp : Dp K (W.wo H3) (.ref p3) (.list ((ds ++ ds2) ++ ds3)) := .lst (sq_of hp3) (dpAll_append (dpAll_append ((e2.trans e3).dpAll hd1) (e3.dpAll hd2)) hd3)
    refine m_ret (K := K) (P := Sm) e3.j (em_ixL (P1 := AllP Sm 33) (em_var rfl hdp ⟨_, rfl, hall⟩) (em_drawN rfl hB) fun ds i hds hi => hds.at hi.1 hi.2) fun v d H4 e4 hd4 hs => k v d H4 (e1.trans (e2.trans (e3.trans e4))) hd4 hs
end

end Nt

namespace Nt
open PySem PySem.Spec PyProof.Rows L2 Evl
/-! ### data of small depth and small lengths -/
def isAt : PyData → Bool
  | .none | .bool _ | .int _ | .str _ => true
  | _ => false
theorem isAt_nt {d : PyData} (h : isAt d = true) : isTup d = false := by
  cases d <;> first | rfl | cases h
theorem isAt_sm {d : PyData} (h : isAt d = true) : Sm d := by
  cases d <;> first | exact .none | exact .bool _ | exact .int _ | exact .str _ | cases h
def Sd : Nat → PyData → Prop
  | 0, d => isAt d = true
  | k + 1, d => isAt d = true ∨ ∃ ds, d = .tuple ds ∧ ds.length ≤ 1000 ∧ ∀ x, x ∈ ds → Sd k x
theorem Sd.sm : ∀ {k : Nat} {d : PyData}, Sd k d → Sm d
  | 0, _, h => isAt_sm h
  | k + 1, d, h => by
    rcases h with h | ⟨ds, rfl, hl, ha⟩
    · exact isAt_sm h
    · exact .tuple (by omega) fun x hx => (ha x hx).sm
theorem Sd.atom {k : Nat} {d : PyData} (h : isAt d = true) : Sd k d := by
  cases k with
  | zero => exact h
  | succ k => exact .inl h
theorem Sd.up : ∀ {k : Nat} {d : PyData}, Sd k d → Sd (k + 1) d
  | 0, _, h => .inl h
  | k + 1, d, h => by
    rcases h with h | ⟨ds, rfl, hl, ha⟩
    · exact .inl h
    · exact .inr ⟨ds, rfl, hl, fun x hx => (ha x hx).up⟩
theorem Sd.mono {k m : Nat} {d : PyData} (h : Sd k d) (hm : k ≤ m) : Sd m d := by
  obtain ⟨j, rfl⟩ := Nat.exists_eq_add_of_le hm
  induction j with
  | zero => exact h
  | succ j ih => exact (ih (by omega)).up
theorem Sd.tup {k : Nat} {ds : List PyData} (hl : ds.length ≤ 1000) (ha : ∀ x, x ∈ ds → Sd k x) : Sd (k + 1) (.tuple ds) := .inr ⟨ds, rfl, hl, ha⟩
theorem Sd.tupI {k : Nat} {ds : List PyData} (h : Sd k (.tuple ds)) : ∃ k', k = k' + 1 ∧ ds.length ≤ 1000 ∧ ∀ x, x ∈ ds → Sd k' x := by
  cases k with
  | zero => cases h
  | succ k =>
    rcases h with h | ⟨es, e, hl, ha⟩
    · cases h
    · cases e
      exact ⟨k, rfl, hl, ha⟩
theorem nt_isOne {ns : List Str} {d : PyData} (h : isOne ns d = true) : isAt d = true := by
  cases d <;> first | rfl | cases h
theorem nt_isVal {d : PyData} (h : isVal d = true) : isAt d = true := by
  cases d <;> first | rfl | cases h
theorem nt_isTerm {d : PyData} (h : isTerm d = true) : isAt d = true := by
  rcases Bool.or_eq_true_iff.mp h with h | h
  · exact nt_isVal h
  · exact nt_isOne h
theorem sd_isCond {d : PyData} (h : isCond d = true) : Sd 1 d := by
  unfold isCond at h
  split at h
  · obtain ⟨h1, h2⟩ := He.ba h
    obtain ⟨h2, h3⟩ := He.ba h2
    exact .tup (k := 0) (by simp) (all3 (nt_isOne h1) (nt_isOne h2) (nt_isTerm h3))
  · cases h
theorem chk_atom {z : Str} {ps : List PyData} (h : chk z ps = true) : ∀ x, x ∈ ps → isAt x = true := by
  unfold chk at h
  split at h
  · by_cases hl : ps.length = 2
    · obtain ⟨a, b, rfl⟩ := len2 hl
      obtain ⟨h1, h2⟩ := He.ba h
      exact all2 (nt_isOne h1) (nt_isVal h2)
    · rw [pSet_len hl] at h; cases h
  · split at h
    · by_cases hl : ps.length = 2
      · obtain ⟨a, b, rfl⟩ := len2 hl
        obtain ⟨h1, h2⟩ := He.ba h
        exact all2 (nt_isOne h1) (nt_isTerm h2)
      · rw [pAdd_len hl] at h; cases h
    · split at h
      · by_cases hl : ps.length = 1
        · obtain ⟨a, rfl⟩ := len1 hl
          refine all1 ?_
          cases a <;> first | rfl | cases h
        · rw [pWait_len hl] at h; cases h
      · split at h
        · by_cases hl : ps.length = 3
          · obtain ⟨a, b, c, rfl⟩ := len3 hl
            obtain ⟨h1, h2⟩ := He.ba h
            obtain ⟨h2, h3⟩ := He.ba h2
            exact all3 (nt_isOne h1) (nt_isTerm h2) (nt_isOne h3)
          · rw [pAsk_len hl] at h; cases h
        · split at h
          · by_cases hl : ps.length = 1
            · obtain ⟨a, rfl⟩ := len1 hl
              refine all1 ?_
              cases a <;> first | rfl | cases h
            · rw [pAns_len hl] at h; cases h
          · by_cases hl : ps.length = 1
            · obtain ⟨a, rfl⟩ := len1 hl
              exact all1 (nt_isTerm h)
            · rw [pTerm_len hl] at h; cases h
theorem sumO_nn : ∀ {l : List (Option Int)} {n : Int}, sumO l = some n → (∀ a, some a ∈ l → 0 ≤ a) → 0 ≤ n ∧ ∀ o, o ∈ l → ∃ a, o = some a ∧ 0 ≤ a ∧ a ≤ n
  | [], n, h, _ => by
    rw [sumO_nil] at h
    cases h
    exact ⟨by decide, fun o ho => by cases ho⟩
  | o :: l, n, h, ha => by
    rw [sumO_cons] at h
    cases o with
    | none => cases h
    | some a =>
      cases q : sumO l with
      | none => rw [q] at h; cases h
      | some b =>
        rw [q] at h
        have h : a + b = n := by injection h
        obtain ⟨hb, hr⟩ := sumO_nn q fun a hm => ha a (List.mem_cons_of_mem _ hm)
        have h0 := ha a (List.mem_cons_self ..)
        refine ⟨by omega, fun o ho => ?_⟩
        rcases List.mem_cons.mp ho with rfl | ho
        · exact ⟨a, rfl, h0, by omega⟩
        · obtain ⟨c, hc, hc0, hcb⟩ := hr o ho
          exact ⟨c, hc, hc0, by omega⟩
theorem sumO_pos : ∀ {l : List (Option Int)} {n : Int}, sumO l = some n → (∀ a, some a ∈ l → 1 ≤ a) → (l.length : Int) ≤ n
  | [], n, h, _ => by
    rw [sumO_nil] at h
    cases h
    exact Int.le_refl _
  | o :: l, n, h, ha => by
    rw [sumO_cons] at h
    cases o with
    | none => cases h
    | some a =>
      cases q : sumO l with
      | none => rw [q] at h; cases h
      | some b =>
        rw [q] at h
        have h : a + b = n := by injection h
        have hr := sumO_pos q fun a hm => ha a (List.mem_cons_of_mem _ hm)
        have h0 := ha a (List.mem_cons_self ..)
        rw [List.length_cons]
        omega
theorem sd_stmt {kind : Str} {cb : PyData → Option Int} {m : Nat} (hm : 1 ≤ m) (hcb : ∀ d n, cb d = some n → 0 ≤ n ∧ (n ≤ 1000 → Sd m d)) {d : PyData} {n : Int} (h : cntStmt kind cb d = some n) : 1 ≤ n ∧ (n ≤ 1000 → Sd (m + 1) d) := by
  unfold cntStmt at h
  split at h
  · rename_i z parts
    split at h
    · unfold cntBlock at h
      split at h
      · rename_i hc
        obtain ⟨hl, hc⟩ := hc
        cases q : sumO ((parts.drop 1).map cb) with
        | none => rw [q] at h; cases h
        | some s =>
          rw [q] at h
          have h : 1 + s = n := by injection h
          obtain ⟨hs0, hs⟩ := sumO_nn q fun a ha => by
            obtain ⟨x, _, e⟩ := List.mem_map.mp ha
            exact (hcb x a e).1
          refine ⟨by omega, fun hn => .tup ?_ fun x hx => ?_⟩
          · rw [List.length_drop] at hl
            have : nBod z ≤ 2 := by unfold nBod; split <;> omega
            rw [List.length_cons]; omega
          · rcases List.mem_cons.mp hx with rfl | hx
            · exact .atom rfl
            · cases parts with
              | nil => cases hx
              | cons p ps =>
                rcases List.mem_cons.mp hx with rfl | hx
                · exact (sd_isCond hc).mono hm
                · obtain ⟨a, e, h0, h1⟩ := hs (cb x) (List.mem_map.mpr ⟨x, hx, rfl⟩)
                  exact (hcb x a e).2 (by omega)
      · cases h
    · split at h
      · rename_i hc
        have h : (1 : Int) = n := by injection h
        obtain ⟨_, hc⟩ := He.ba hc
        refine ⟨by omega, fun _ => .tup ?_ fun x hx => ?_⟩
        · have := (chk_len hc).1
          rw [List.length_cons]; omega
        · rcases List.mem_cons.mp hx with rfl | hx
          · exact .atom rfl
          · exact .atom (chk_atom hc x hx)
      · cases h
  · cases h
theorem sd_body {kind : Str} : ∀ (f : Nat) (d : PyData) (n : Int), cntBody kind f d = some n → 0 ≤ n ∧ (n ≤ 1000 → Sd (2 * f + 1) d)
  | 0, d, n, h => by
    unfold cntBody at h
    split at h
    · have h : (0 : Int) = n := by injection h
      exact ⟨by omega, fun _ => .tup (by simp) fun x hx => by cases hx⟩
    · rename_i q; cases q
    · cases h
  | f + 1, d, n, h => by
    unfold cntBody at h
    split at h
    · rename_i q; cases q
    · rename_i f' ss q
      have q : f = f' := by injection q
      subst q
      have hst := fun x a (e : cntStmt kind (cntBody kind f) x = some a) => sd_stmt (by omega) (sd_body (kind := kind) f) e
      have hp : (ss.length : Int) ≤ n := by
        have := sumO_pos h fun a ha => by
          obtain ⟨x, _, e⟩ := List.mem_map.mp ha
          exact (hst x a e).1
        rw [List.length_map] at this
        exact this
      obtain ⟨h0, h1⟩ := sumO_nn h fun a ha => by
        obtain ⟨x, _, e⟩ := List.mem_map.mp ha
        have := (hst x a e).1
        omega
      refine ⟨h0, fun hn => .tup (by omega) fun x hx => ?_⟩
      obtain ⟨a, e, ha0, ha1⟩ := h1 _ (List.mem_map.mpr ⟨x, hx, rfl⟩)
      exact (hst x a e).2 (by omega)
    · cases h
theorem okProg.sd {kind : Str} {most : Int} {d : PyData} (h : okProg kind most d) (hm : most ≤ 1000) : Sd 10 d := by
  obtain ⟨body, n, rfl, hc, h0, h1, _⟩ := h
  exact .tup (k := 9) (by simp) (all2 (.atom rfl) ((sd_body 4 body n hc).2 (by omega)))
theorem mem_cut {ds : List PyData} {lo hi : Option Int} {x : PyData} (h : x ∈ cutD ds lo hi) : x ∈ ds := List.mem_of_mem_drop (List.mem_of_mem_take h)
theorem len_cut (ds : List PyData) (lo hi : Option Int) : (cutD ds lo hi).length ≤ ds.length := by
  unfold cutD
  rw [List.length_take, List.length_drop]
  omega
/-! ### no dicts, small depth -/
theorem plainAll_of {ds : List PyData} (h : ∀ x, x ∈ ds → x.plain = true) : PyData.plainAll ds = true := by
  induction ds with
  | nil => rw [PyData.plainAll]
  | cons d ds ih => rw [PyData.plainAll, h d (List.mem_cons_self ..), ih fun x hx => h x (List.mem_cons_of_mem _ hx)]; rfl
theorem depthAll_of {ds : List PyData} {k : Nat} (h : ∀ x, x ∈ ds → x.depth ≤ k) : PyData.depthAll ds ≤ k := by
  induction ds with
  | nil => rw [PyData.depthAll]; omega
  | cons d ds ih =>
    rw [PyData.depthAll]
    have h1 := h d (List.mem_cons_self ..)
    have h2 := ih fun x hx => h x (List.mem_cons_of_mem _ hx)
    omega
/-- no dict, at most so deep -/
structure Pn (k : Nat) (d : PyData) : Prop where
  p : d.plain = true
  d : d.depth ≤ k
theorem Pn.at {k : Nat} {d : PyData} (h : isAt d = true) : Pn k d := by
  cases d <;> first | exact ⟨by rw [PyData.plain], by rw [PyData.depth]; omega⟩ | cases h
theorem Pn.mono {k m : Nat} {d : PyData} (h : Pn k d) (e : k ≤ m) : Pn m d := ⟨h.p, Nat.le_trans h.d e⟩
theorem Pn.tup {k : Nat} {ds : List PyData} (h : ∀ x, x ∈ ds → Pn k x) : Pn (k + 1) (.tuple ds) :=
  ⟨by rw [PyData.plain]; exact plainAll_of fun x hx => (h x hx).p, by rw [PyData.depth]; exact Nat.succ_le_succ (depthAll_of fun x hx => (h x hx).d)⟩
theorem Pn.lst {k : Nat} {ds : List PyData} (h : ∀ x, x ∈ ds → Pn k x) : Pn (k + 1) (.list ds) :=
  ⟨by rw [PyData.plain]; exact plainAll_of fun x hx => (h x hx).p, by rw [PyData.depth]; exact Nat.succ_le_succ (depthAll_of fun x hx => (h x hx).d)⟩
theorem Sd.pn : ∀ {k : Nat} {d : PyData}, Sd k d → Pn k d
  | 0, _, h => .at h
  | k + 1, d, h => by
    rcases h with h | ⟨ds, rfl, hl, ha⟩
    · exact .at h
    · exact .tup fun x hx => (ha x hx).pn

end Nt

namespace Nt
open PySem PySem.Spec PyProof.Rows L2 Evl
/-! ### something otherwise at a drawn place -/
def sptA (k : Nat) : List PyData → Prop := fun ds => ∃ d, ds = [d] ∧ Sd k d
/-- a tuple of at most so many small things -/
def TpS (n : Nat) : List PyData → Prop := fun es => es.length ≤ n ∧ ∀ x, x ∈ es → Sm x
section
variable {P : Program} {w : World} {K : PySem.W.Frag} {mg : Str → Option Value} {base : Heap}
theorem ok__law_spoilt1 (T : Txt w K mg) (k lv : Nat) (hlv : 2 ≤ lv) (sp : Sp) (hsp : ∀ k', k = k' + 1 → sp = spB K (sptA k') oddG) (D__law_spoilt : Def P w K mg base CX0 lv "_law_spoilt" ["_law_bag_here", "_law_thing"] sp) : Def P w K mg base CX0 (lv + 1) "_law_spoilt" ["_law_bag_here", "_law_thing"] (spB K (sptA k) oddG) := by
  have D__law_draw := ok__law_draw (P := P) (base := base) T
  have D__law_odd := ok__law_odd (P := P) (base := base) T
  refine mkDef T.F__law_spoilt T.g__law_spoilt sc__law_spoilt (fun _ _ _ _ _ _ us hl => match us, hl with | [_, _], _ => rfl) (fun vs H Q E h => ?_) (fun cdv A outer s H vs Q E hr h => ?_)
  · obtain ⟨W, b, xs, ds, _, _, rfl, hd, ⟨d, rfl, _⟩, _⟩ := h
    have := dpAll_len hd
    show xs.length + 1 = 2
    rw [this]; rfl
  · obtain ⟨W, b, xs, ds, hB, j, rfl, hd, ⟨d, rfl, hsd⟩, kk⟩ := h
    obtain ⟨x, rfl⟩ := len1 (dpAll_len hd)
    obtain ⟨_, e, hx⟩ := dp1 hd
    cases e
    refine ⟨_, (PSs.nox (pss_cons (ps_if (PW.pt (pw_and (pt_val (pe_callB call_isi (by rfl) T.m_isinstance boot_isinstance (pa_cons (pv 1) (pa_cons (pe_bltn (v := .ty "tuple") rfl T.m_tuple boot_tuple rfl) pa_nil)))) (pw_and (pt_cmpR op_gt (pe_callB call_len_seq (by rfl) T.m_len boot_len (pa_cons (pv 1) pa_nil)) pe_int (nomark _)) (pw_and1 (pt_cmpR op_gt (pe_callD D__law_draw (hr.mono (by omega)) rfl pass0 (pa_cons (pv 0) (pa_cons pe_int pa_nil))) pe_int (nomark _)))))) (pss_cons (ps_set (i := 2) sc__law_spoilt.nd rfl (Or.inl rfl) (pe_callD D__law_draw (hr.mono (by omega)) rfl pass0 (pa_cons (pv 0) (pa_cons (pe_callB call_len_seq (by rfl) T.m_len boot_len (pa_cons (pv 1) pa_nil)) pa_nil))))
      (pss_one (ps_ret (pe_op op_catA (pe_op op_catA (pe_slice sl_tupA (pv 1) po_none (po_some (pv 2))) (pe_tup (pa_cons (pe_callD D__law_spoilt (hr.mono (by omega)) rfl pass0 (pa_cons (pv 0) (pa_cons (pe_ix ix_tup (pv 1) (pv 2) (fun _ _ => rfl)) pa_nil))) pa_nil))) (pe_slice sl_tupA (pv 1) (po_some (pe_op op_add (pv 2) pe_int)) po_none))))) pss_nil)
      (pss_cons (ps_set (i := 3) sc__law_spoilt.nd rfl (Or.inl rfl) (pe_callD D__law_draw (hr.mono (by omega)) rfl pass0 (pa_cons (pv 0) (pa_cons pe_int pa_nil))))
      (pss_cons (ps_if (PW.pt (pw_or (pt_not (pt_val (pe_callB call_isi (by rfl) T.m_isinstance boot_isinstance (pa_cons (pv 1) (pa_cons (pe_bltn (v := .ty "tuple") rfl T.m_tuple boot_tuple rfl) pa_nil))))) (pw_or1 (pt_cmpR op_gt (pv 3) pe_int (nomark _))))) (pss_one (ps_ret (pe_callD D__law_odd (hr.mono (by omega)) rfl pass0 (pa_cons (pv 0) pa_nil)))) pss_nil)
      (pss_cons (ps_if (pt_cmpR op_eq (pv 3) pe_int (nomark _)) (pss_one (ps_ret (pe_callTy call_list_of (by rfl) T.m_list boot_list (pa_cons (pv 1) pa_nil)))) pss_nil)
      (pss_cons (ps_if (pt_cmpR op_eq (pv 3) pe_int (nomark _)) (pss_one (ps_ret (pe_op op_catA (pv 1) (pe_tup (pa_cons (pe_callD D__law_odd (hr.mono (by omega)) rfl pass0 (pa_cons (pv 0) pa_nil)) pa_nil))))) pss_nil)
      (pss_one (ps_ret (pe_slice sl_tupA (pv 1) (po_some pe_int) po_none))))))))), ?_⟩
    cases ht : isTup d with
    | false =>
      refine m_when (P := fun b => b = false) j (emt_and (P1 := fun b => b = false) (emt_B (em_isi (K := K) (P1 := fun y => y = d) (em_is rfl hx) fun y hy => ⟨false, by rw [hy]; exact (kit_tup d).trans (congrArg some ht), rfl⟩)) (fun q => by cases q) fun _ => rfl) (fun q => by cases q) fun _ H1 e1 => ?_
      refine m_asg (K := K) e1.j (em_drawN rfl hB) ?_
      rintro v d2 H2 e2 hd2 ⟨way, rfl, _, _⟩
      have hx2 := (e1.trans e2).dp hx
      refine m_when (P := fun b => b = true) e2.j (emt_or (P1 := fun b => b = true) (emt_not (emt_B (em_isi (K := K) (P1 := fun y => y = d) (em_is rfl hx2) fun y hy => ⟨false, by rw [hy]; exact (kit_tup d).trans (congrArg some ht), rfl⟩))) (fun q => by cases q) fun _ => rfl) (fun _ H3 e3 => ?_) fun q => by cases q
      exact m_ret (K := K) (P := Sm) e3.j (em_no (G := oddG) rfl hB) fun v d H4 e4 hd4 hs => kk v d H4 (e1.trans (e2.trans (e3.trans e4))) hd4 hs
    | true =>
      obtain ⟨a, xs, ds, rfl, rfl, hxs, hds⟩ := dp_tupI hx ht
      obtain ⟨k', rfl, hl, ha⟩ := hsd.tupI
      cases hsp k' rfl
      have hsm : ∀ x, x ∈ ds → Sm x := fun x hx => (ha x hx).sm
      refine m_when (P := fun b => b = true → 0 < ds.length) j (emt_and (P1 := fun _ => True) (emt_B (em_isi (K := K) (P1 := fun y => y = .tuple ds) (em_is rfl hx) fun y hy => ⟨true, by rw [hy]; rfl, trivial⟩)) (fun _ => emt_and (P1 := fun b => b = true → 0 < ds.length) (emt_test (em_cmpI (P1 := fun i => i = ds.length) (P2 := fun i => i = 0) (em_lenT (K := K) (P1 := fun es => es = ds) (em_var rfl hx ⟨ds, rfl, rfl⟩) fun es he => by rw [he]) (em_int ⟨_, rfl, rfl⟩) fun i j hi hj hb => by have := of_decide_eq_true hb; omega)) (fun hp => emt_test (em_cmpI (K := K) (P1 := fun _ => True) (P2 := fun _ => True) (Em.imp (em_drawN rfl hB) fun d ⟨i, e, _⟩ => ⟨i, e, trivial⟩) (em_int ⟨_, rfl, trivial⟩) fun _ _ _ _ _ => hp rfl)) fun _ q => by cases q) fun _ q => by cases q) (fun hp H1 e1 => ?_) fun _ H1 e1 => ?_
      · have hp := hp rfl
        have hx1 := e1.dp hx
        refine m_asg (K := K) e1.j (em_draw (P := fun m => m = ds.length) rfl hB (em_lenT (P1 := fun es => es = ds) (em_var rfl hx1 ⟨ds, rfl, rfl⟩) fun es he => by rw [he]; exact ⟨by omega, by omega, rfl⟩)) ?_
        rintro v d2 H2 e2 hd2 ⟨at_, rfl, m, rfl, hat0, hat1⟩
        cases dpI hd2
        have hx2 := e2.dp hx1
        have evx : Em W K (tVar 1) [some (.ref b), some (.ref a), some (.int at_), none] H2 (IsTp fun es => es = ds) := em_var rfl hx2 ⟨ds, rfl, rfl⟩
        refine m_ret (K := K) (P := Sm) e2.j (em_catT (P1 := TpS 1001) (P2 := TpS 1000) (em_catT (P1 := TpS 1000) (P2 := TpS 1) (em_slT (Pl := fun _ => True) (Ph := fun _ => True) evx (emo_none trivial) (emo_some (K := K) (P1 := fun _ => True) (em_var rfl (.int at_) ⟨at_, rfl, trivial⟩) fun _ _ => trivial) ?_) (em_tup (ema_cons (P1 := Sm) (Em.imp (em_help (A' := sptA k') rfl hB (ema_cons (P1 := Sd k') (em_ixT (P1 := fun es => es = ds) (P2 := fun i => i = at_) evx (em_var rfl (.int at_) ⟨at_, rfl, rfl⟩) ?_) fun d hd => ema_nil ⟨d, rfl, hd⟩) fun _ h => h) ?_) fun d hd => ema_nil ⟨ok20, _, rfl, ?_⟩)) ?_) (em_slT (Pl := fun _ => True) (Ph := fun _ => True) evx (emo_some (K := K) (P1 := fun _ => True) (em_opI0 (P1 := fun _ => True) (P2 := fun _ => True) (em_var rfl (.int at_) ⟨at_, rfl, trivial⟩) (em_int ⟨_, rfl, trivial⟩) fun _ _ _ _ => trivial) fun _ _ => trivial) (emo_none trivial) ?_) ?_) fun v d H3 e3 hd3 hs => kk v d H3 (e1.trans (e2.trans e3)) hd3 hs
        · rintro es lo hi rfl _ _
          exact ⟨_, rfl, by have := len_cut es lo hi; omega, fun x hx => hsm x (mem_cut hx)⟩
        · rintro es i rfl rfl
          obtain ⟨n, rfl⟩ : ∃ n : Nat, i = (n : Int) := ⟨i.toNat, by omega⟩
          have hn : n < es.length := by omega
          exact ⟨es[n], atI_nat (List.getElem?_eq_getElem hn), ha _ (List.getElem_mem hn)⟩
        · rintro d ⟨_, _, h⟩; exact h
        · exact ⟨by simp, all1 hd⟩
        · rintro es fs ⟨h1, h2⟩ ⟨h3, h4⟩
          refine ⟨by omega, _, rfl, by rw [List.length_append]; omega, fun x hx => ?_⟩
          rcases List.mem_append.mp hx with hx | hx
          · exact h2 x hx
          · exact h4 x hx
        · rintro es lo hi rfl _ _
          exact ⟨_, rfl, by have := len_cut es lo hi; omega, fun x hx => hsm x (mem_cut hx)⟩
        · rintro es fs ⟨h1, h2⟩ ⟨h3, h4⟩
          refine ⟨by omega, .tuple (by rw [List.length_append]; omega) fun x hx => ?_⟩
          rcases List.mem_append.mp hx with hx | hx
          · exact h2 x hx
          · exact h4 x hx
      · refine m_asg (K := K) e1.j (em_drawN rfl hB) ?_
        rintro v d2 H2 e2 hd2 ⟨way, rfl, _, _⟩
        cases dpI hd2
        have hx2 := (e1.trans e2).dp hx
        have evx : ∀ H', W.Le H2 H' → Em W K (tVar 1) [some (.ref b), some (.ref a), none, some (.int way)] H' (IsTp fun es => es = ds) := fun H' e' => em_var rfl (e'.dp hx2) ⟨ds, rfl, rfl⟩
        have evw : ∀ H', W.Le H2 H' → Em W K (tVar 3) [some (.ref b), some (.ref a), none, some (.int way)] H' (IsI fun _ => True) := fun H' e' => em_var rfl (.int way) ⟨way, rfl, trivial⟩
        refine m_when (P := fun _ => True) e2.j (emt_or (P1 := fun _ => True) (emt_not (emt_B (em_isi (K := K) (P1 := fun y => y = .tuple ds) (em_is rfl hx2) fun y hy => ⟨true, by rw [hy]; rfl, trivial⟩))) (fun _ => emt_test (em_cmpI (P2 := fun _ => True) (evw H2 (.refl e2.j)) (em_int ⟨_, rfl, trivial⟩) fun _ _ _ _ => trivial)) fun _ => trivial) (fun _ H3 e3 => ?_) fun _ H3 e3 => ?_
        · exact m_ret (K := K) (P := Sm) e3.j (em_no (G := oddG) rfl hB) fun v d H4 e4 hd4 hs => kk v d H4 (e1.trans (e2.trans (e3.trans e4))) hd4 hs
        refine m_when (P := fun _ => True) e3.j (emt_test (em_eqI (P2 := fun _ => True) (evw H3 e3) (em_int ⟨_, rfl, trivial⟩) fun _ _ _ _ => trivial)) (fun _ H4 e4 => ?_) fun _ H4 e4 => ?_
        · exact m_ret (K := K) (P := Sm) e4.j (em_lstT (evx H4 (e3.trans e4)) fun es he => by rw [he]; exact .list (by omega) hsm) fun v d H5 e5 hd5 hs => kk v d H5 (e1.trans (e2.trans (e3.trans (e4.trans e5)))) hd5 hs
        refine m_when (P := fun _ => True) e4.j (emt_test (em_eqI (P2 := fun _ => True) (evw H4 (e3.trans e4)) (em_int ⟨_, rfl, trivial⟩) fun _ _ _ _ => trivial)) (fun _ H5 e5 => ?_) fun _ H5 e5 => ?_
        · refine m_ret (K := K) (P := Sm) e5.j (em_catT (P1 := fun es => es = ds) (P2 := TpS 1) (evx H5 (e3.trans (e4.trans e5))) (em_tup (ema_cons (P1 := Sm) (em_no (G := oddG) rfl hB) fun d hd => ema_nil ⟨ok20, _, rfl, by simp, all1 hd⟩)) ?_) fun v d H6 e6 hd6 hs => kk v d H6 (e1.trans (e2.trans (e3.trans (e4.trans (e5.trans e6))))) hd6 hs
          rintro es fs rfl ⟨h3, h4⟩
          refine ⟨by omega, .tuple (by rw [List.length_append]; omega) fun x hx => ?_⟩
          rcases List.mem_append.mp hx with hx | hx
          · exact hsm x hx
          · exact h4 x hx
        · refine m_ret (K := K) (P := Sm) e5.j (em_slT (Pl := fun _ => True) (Ph := fun _ => True) (evx H5 (e3.trans (e4.trans e5))) (emo_some (K := K) (P1 := fun _ => True) (em_int ⟨_, rfl, trivial⟩) fun _ _ => trivial) (emo_none trivial) ?_) fun v d H6 e6 hd6 hs => kk v d H6 (e1.trans (e2.trans (e3.trans (e4.trans (e5.trans e6))))) hd6 hs
          rintro es lo hi rfl _ _
          exact .tuple (by have := len_cut es lo hi; omega) fun x hx => hsm x (mem_cut hx)
theorem ok__law_spoilt (T : Txt w K mg) : ∀ k : Nat, Def P w K mg base CX0 (3 + k) "_law_spoilt" ["_law_bag_here", "_law_thing"] (spB K (sptA k) oddG)
  | 0 => ok__law_spoilt1 T 0 2 (by decide) (fun _ _ _ _ => False) (fun f' h => by omega) (Def.idle 2 T.F__law_spoilt T.g__law_spoilt (fun _ _ _ _ _ _ us hl => match us, hl with | [_, _], _ => rfl))
  | k + 1 => ok__law_spoilt1 T (k + 1) (3 + k) (by omega) (spB K (sptA k) oddG) (fun f' h => by cases h; rfl) (ok__law_spoilt T k)
end

end Nt

namespace Nt
open PySem PySem.Spec PyProof.Rows L2 Evl
/-! ### check_program -/
theorem isProg_inv {d : PyData} (h : isProg d = true) : ∃ z body n, d = .tuple [.str z, body] ∧ okKind z ∧ cntBody z 4 body = some n ∧ n ≤ 24 := by
  unfold isProg at h
  split at h
  · rename_i z body
    obtain ⟨h1, h2⟩ := He.ba h
    have hk : okKind z := by
      rcases Bool.or_eq_true_iff.mp h1 with q | q
      · exact .inl (eq_of_beq q)
      · exact .inr (eq_of_beq q)
    cases q : cntBody z 4 body with
    | none => rw [q] at h2; cases h2
    | some n => rw [q] at h2; exact ⟨z, body, n, rfl, hk, q, of_decide_eq_true h2⟩
  · cases h
def optK : Option Str → V
  | none => .non
  | some k => .str k
def kindIs (k : Str) : PyData → Bool
  | .tuple (.str z :: _) => decide (z = k)
  | _ => false
def isProgK (ko : Option Str) (d : PyData) : Bool := isProg d && (match ko with
  | none => true
  | some k => kindIs k d)
def spChk (K : PySem.W.Frag) : Sp := fun vs H Q E => ∃ v d ko, vs = [v, optK ko] ∧ Dp K H v d ∧ Sm d ∧ (isProgK ko d = true → ∀ H', Same H H' → Q .non H') ∧ (isProgK ko d = false → ∀ H', Same H H' → E (.ref (He.ga K "BadProgram")) none H')
section
variable {P : Program} {w : World} {K : PySem.W.Frag} {mg : Str → Option Value} {base : Heap}
theorem ok_check_program (T : Txt w K mg) : DefV P w K mg base (L2.CX P w) 18 "check_program" ["thing", "kind"] [.non] (spChk K) := by
  have D_is_program := ok_is_program (P := P) (base := base) T
  refine mkDefV (kws := [(("kind" : Str), V.non)]) (n := 1) T.F_check_program T.g_check_program sc_check_program (by simp) rfl (fun D doc pm an cdv ct us ks hl hk => ?_) (fun vs H Q E h => ?_) (fun cdv A outer s H vs Q E hr h => ?_)
  · match us, ks, hl, hk with
    | [_], [_], _, _ => exact ⟨_, _, _, _, _, _, rfl, rfl, rfl⟩
  · obtain ⟨v, d, ko, rfl, _⟩ := h; rfl
  · obtain ⟨v, d, ko, rfl, hd, hs, kq, ke⟩ := h
    refine ⟨_, (pss_one (ps_if (PW.pt (pw_or (pt_not (pt_val (pe_callD D_is_program (hr.mono (by omega)) rfl pass0 (pa_cons (pv 0) pa_nil)))) (pw_or1 (PW.pt (pw_and (pt_cmpR op_notN (pv 1) pe_non (nomark _)) (pw_and1 (pt_cmpR op_ne (pe_ix ix_tup (pv 0) pe_int (fun _ _ => rfl)) (pv 1) (nomark _)))))))) (pss_one (ps_raise rfl (takes_of rfl rfl rfl rfl) (pmk_own0 PySem.F.excBase_ValueError T.x_BadProgram.q T.g_BadProgram T.x_BadProgram.k (raises_own T.x_BadProgram.s T.x_BadProgram.t) rfl))) pss_nil)), ?_⟩
    cases hp : isProg d with
    | false =>
      have hk : isProgK ko d = false := by unfold isProgK; rw [hp]; rfl
      refine s_when (b := true) (et_or (a := true) (b := true) (et_is (et_not (et_B (ev_call (ea_cons (ev_var rfl) ea_nil) (spvProg hd hs)))) (by rw [hp]; rfl)) fun q => by cases q) (fun _ H1 e => ke hk H1 e) fun q => by cases q
    | true =>
      obtain ⟨z, body, n, rfl, hkz, hc, hn⟩ := isProg_inv hp
      obtain ⟨a, xs, rfl, hx, hds⟩ := dpT hd
      obtain ⟨x0, x1, rfl⟩ := len2 (dpAll_len hds)
      obtain ⟨_, _, e, h0, h1⟩ := dp2 hds
      cases e
      cases dpS h0
      have e1 : EvT (tNot (tB (tCall (spProg K) [] E0 (tCons (tVar 0) tNil)))) [some (.ref a), some (optK ko)] H false := et_is (et_not (et_B (ev_call (ea_cons (ev_var rfl) ea_nil) (spvProg hd hs)))) (by rw [hp]; rfl)
      cases ko with
      | none =>
        refine s_when (b := false) (et_or (a := false) (b := false) e1 fun _ => et_and (a := false) (b := false) (et_test (ev_op (ev_var rfl) ev_c rv_notN)) fun q => by cases q) (fun q => by cases q) fun _ H1 e => kq ?_ H1 e
        unfold isProgK; rw [hp]; rfl
      | some k =>
        have hk : isProgK (some k) (.tuple [.str z, body]) = decide (z = k) := by unfold isProgK; rw [hp]; rfl
        refine s_when (b := !decide (z = k)) (et_or (a := false) (b := !decide (z = k)) e1 fun _ => et_is (et_and (a := true) (b := !decide (z = k)) (et_test (ev_op (ev_var rfl) ev_c rv_notN)) fun _ => et_is (et_test (ev_op (ev_op (ev_var rfl) ev_c (rv_ixT hx at0)) (ev_var rfl) (rv_ne rfl))) (congrArg not (dec_strV z k))) (Bool.true_and _)) (fun hb H1 e => ke ?_ H1 e) fun hb H1 e => kq ?_ H1 e
        · rw [hk]
          cases q : decide (z = k) with
          | false => rfl
          | true => rw [q] at hb; cases hb
        · rw [hk]
          cases q : decide (z = k) with
          | true => rfl
          | false => rw [q] at hb; cases hb
end

end Nt

namespace Nt
open PySem PySem.Spec PyProof.Rows L2 Evl
/-! ### the instructions of a body that begins at place n -/
def tstD (c : PyData) (n : Nat) : PyData := .tuple [.str "test", c, .int (n : Int)]
def jmpD (n : Nat) : PyData := .tuple [.str "jump", .int (n : Int)]
def isNil : PyData → Bool
  | .tuple [] => true
  | _ => false
def codeWhile (cb : Nat → PyData → List PyData) (n : Nat) (c b : PyData) : List PyData := tstD c (n + (cb (n + 1) b).length + 2) :: (cb (n + 1) b ++ [jmpD n])
def codeIf (cb : Nat → PyData → List PyData) (n : Nat) (c b1 b2 : PyData) : List PyData :=
  if isNil b2 = true then tstD c (n + (cb (n + 1) b1).length + 1) :: cb (n + 1) b1
  else tstD c (n + (cb (n + 1) b1).length + 2) :: (cb (n + 1) b1 ++ jmpD (n + (cb (n + 1) b1).length + 2 + (cb (n + (cb (n + 1) b1).length + 2) b2).length) :: cb (n + (cb (n + 1) b1).length + 2) b2)
def codeStmt (cb : Nat → PyData → List PyData) (n : Nat) (d : PyData) : List PyData := match d with
  | .tuple [.str z, c, b] => if z = "while" then codeWhile cb n c b else [d]
  | .tuple [.str z, c, b1, b2] => if z = "if" then codeIf cb n c b1 b2 else [d]
  | _ => [d]
def codeStmts (cs : Nat → PyData → List PyData) : Nat → List PyData → List PyData
  | _, [] => []
  | n, s :: ss => cs n s ++ codeStmts cs (n + (cs n s).length) ss
def codeBody : Nat → Nat → PyData → List PyData
  | f + 1, n, .tuple ss => codeStmts (codeStmt (codeBody f)) n ss
  | _, _, _ => []
theorem codeStmts_snoc {cs : Nat → PyData → List PyData} : ∀ {n : Nat} {ss : List PyData} {s : PyData}, codeStmts cs n (ss ++ [s]) = codeStmts cs n ss ++ cs (n + (codeStmts cs n ss).length) s
  | n, [], s => by
    show cs n s ++ [] = [] ++ cs (n + 0) s
    rw [List.append_nil, List.nil_append, Nat.add_zero]
  | n, x :: ss, s => by
    show cs n x ++ codeStmts cs (n + (cs n x).length) (ss ++ [s]) = (cs n x ++ codeStmts cs (n + (cs n x).length) ss) ++ cs (n + (cs n x ++ codeStmts cs (n + (cs n x).length) ss).length) s
    rw [codeStmts_snoc, List.append_assoc, List.length_append, Nat.add_assoc]
theorem codeBody_nil {f n : Nat} : codeBody f n (.tuple []) = [] := by cases f <;> rfl
theorem codeBody_S {f n : Nat} {ss : List PyData} : codeBody (f + 1) n (.tuple ss) = codeStmts (codeStmt (codeBody f)) n ss := rfl
theorem codeStmt_while {cb : Nat → PyData → List PyData} {n : Nat} {c b : PyData} : codeStmt cb n (.tuple [.str "while", c, b]) = codeWhile cb n c b := by
  show (if ("while" : Str) = "while" then codeWhile cb n c b else [.tuple [.str "while", c, b]]) = _
  rw [if_pos rfl]
theorem codeStmt_if {cb : Nat → PyData → List PyData} {n : Nat} {c b1 b2 : PyData} : codeStmt cb n (.tuple [.str "if", c, b1, b2]) = codeIf cb n c b1 b2 := by
  show (if ("if" : Str) = "if" then codeIf cb n c b1 b2 else [.tuple [.str "if", c, b1, b2]]) = _
  rw [if_pos rfl]
theorem noBlk {z : Str} (h : isBlk z = false) : z ≠ "if" ∧ z ≠ "while" := by
  refine ⟨fun q => ?_, fun q => ?_⟩ <;> (rw [q] at h; exact absurd h (by decide +kernel))
theorem codeStmt_one {cb : Nat → PyData → List PyData} {n : Nat} {z : Str} {ps : List PyData} (h : isBlk z = false) : codeStmt cb n (.tuple (.str z :: ps)) = [.tuple (.str z :: ps)] := by
  obtain ⟨h1, h2⟩ := noBlk h
  unfold codeStmt
  split
  · rename_i q
    injection q with q
    injection q with q _
    injection q with q
    rw [if_neg (by rw [← q]; exact h2)]
  · rename_i q
    injection q with q
    injection q with q _
    injection q with q
    rw [if_neg (by rw [← q]; exact h1)]
  · rfl
/-- a counted statement is one of three -/
theorem stmt_cases {kind : Str} {cb : PyData → Option Int} {d : PyData} {m : Int} (h : cntStmt kind cb d = some m) :
    (∃ z ps, d = .tuple (.str z :: ps) ∧ isBlk z = false ∧ (words kind).contains z = true ∧ chk z ps = true ∧ m = 1) ∨ (∃ c b k, d = .tuple [.str "while", c, b] ∧ isCond c = true ∧ cb b = some k ∧ m = 1 + k) ∨
    (∃ c b1 b2 k1 k2, d = .tuple [.str "if", c, b1, b2] ∧ isCond c = true ∧ cb b1 = some k1 ∧ cb b2 = some k2 ∧ m = 1 + (k1 + k2)) := by
  unfold cntStmt at h
  split at h
  · rename_i z parts
    split at h
    · rename_i hz
      unfold cntBlock at h
      split at h
      · rename_i hc
        obtain ⟨hl, hc⟩ := hc
        rcases Bool.or_eq_true_iff.mp hz with q | q
        · have q := eq_of_beq q
          subst q
          have e2 : nBod "if" = 2 := by decide +kernel
          rw [e2, List.length_drop] at hl
          obtain ⟨c, b1, b2, rfl⟩ := len3 (show parts.length = 3 by omega)
          refine .inr (.inr ?_)
          have h' : (sumO [cb b1, cb b2]).map (1 + ·) = some m := h
          rw [sumO_two] at h'
          cases q1 : cb b1 with
          | none => rw [q1] at h'; cases h'
          | some k1 =>
            cases q2 : cb b2 with
            | none => rw [q1, q2] at h'; cases h'
            | some k2 =>
              rw [q1, q2] at h'
              have h' : 1 + (k1 + k2) = m := by injection h'
              exact ⟨c, b1, b2, k1, k2, rfl, hc, q1, q2, h'.symm⟩
        · have q := eq_of_beq q
          subst q
          have e2 : nBod "while" = 1 := by decide +kernel
          rw [e2, List.length_drop] at hl
          obtain ⟨c, b, rfl⟩ := len2 (show parts.length = 2 by omega)
          refine .inr (.inl ?_)
          have h' : (sumO [cb b]).map (1 + ·) = some m := h
          rw [sumO_one] at h'
          cases q1 : cb b with
          | none => rw [q1] at h'; cases h'
          | some k =>
            rw [q1] at h'
            have h' : 1 + k = m := by injection h'
            exact ⟨c, b, k, rfl, hc, q1, h'.symm⟩
      · cases h
    · rename_i hz
      split at h
      · rename_i hc
        have h : (1 : Int) = m := by injection h
        obtain ⟨h1, h2⟩ := He.ba hc
        refine .inl ⟨z, parts, rfl, ?_, h1, h2, h.symm⟩
        cases q : isBlk z with
        | false => rfl
        | true => exact absurd q hz
      · cases h
  · cases h
theorem body_tup {kind : Str} {f : Nat} {d : PyData} {n : Int} (h : cntBody kind f d = some n) : ∃ ss, d = .tuple ss := by
  cases q : isTup d with
  | false => rw [cntBody_not q] at h; cases h
  | true => cases d <;> first | exact ⟨_, rfl⟩ | cases q
theorem body_nn {kind : Str} {f : Nat} {d : PyData} {n : Int} (h : cntBody kind f d = some n) : 0 ≤ n := (sd_body f d n h).1
theorem code_len {kind : Str} : ∀ (f : Nat) (d : PyData) (n : Int) (m : Nat), cntBody kind f d = some n → ((codeBody f m d).length : Int) ≤ 2 * n
  | 0, d, n, m, h => by
    have h0 := body_nn h
    show (0 : Int) ≤ _
    omega
  | f + 1, d, n, m, h => by
    obtain ⟨ss, rfl⟩ := body_tup h
    rw [codeBody_S]
    rw [cntBody_S] at h
    have hst : ∀ (s : PyData) (k : Int) (m : Nat), cntStmt kind (cntBody kind f) s = some k → ((codeStmt (codeBody f) m s).length : Int) ≤ 2 * k := fun s k m hk => by
      rcases stmt_cases hk with ⟨z, ps, rfl, hz, _, _, rfl⟩ | ⟨c, b, k1, rfl, hc, hb, rfl⟩ | ⟨c, b1, b2, k1, k2, rfl, hc, hb1, hb2, rfl⟩
      · rw [codeStmt_one hz]; show (1 : Int) ≤ 2; decide
      · rw [codeStmt_while]
        have := code_len f b k1 (m + 1) hb
        unfold codeWhile
        rw [List.length_cons, List.length_append, List.length_singleton]
        omega
      · rw [codeStmt_if]
        have h1 := code_len f b1 k1 (m + 1) hb1
        have h2 := code_len f b2 k2 (m + (codeBody f (m + 1) b1).length + 2) hb2
        have h3 := body_nn hb2
        unfold codeIf
        split
        · rw [List.length_cons]; omega
        · rw [List.length_cons, List.length_append, List.length_cons]; omega
    induction ss generalizing n m with
    | nil =>
      have h : (0 : Int) = n := by injection h
      show (0 : Int) ≤ _
      omega
    | cons s ss ih =>
      rw [List.map_cons, sumO_cons] at h
      cases q1 : cntStmt kind (cntBody kind f) s with
      | none => rw [q1] at h; cases h
      | some a =>
        cases q2 : sumO (ss.map (cntStmt kind (cntBody kind f))) with
        | none => rw [q1, q2] at h; cases h
        | some b =>
          rw [q1, q2] at h
          have h : a + b = n := by injection h
          have h1 := hst s a m q1
          have h2 := ih b (m + (codeStmt (codeBody f) m s).length) q2
          show ((codeStmt (codeBody f) m s ++ codeStmts (codeStmt (codeBody f)) (m + (codeStmt (codeBody f) m s).length) ss).length : Int) ≤ _
          rw [List.length_append]
          omega
/-! ### a list that grows while all else stays -/
def hid (p : Addr) (H : Hp) : Hp := fun a => if a = p then none else H a
theorem hid_at {p a : Addr} {H : Hp} {o : HO} (hn : a ≠ p) (h : H a = some o) : hid p H a = some o := by
  unfold hid; rw [if_neg hn]; exact h
theorem hid_out {p a : Addr} {H : Hp} {o : HO} (h : hid p H a = some o) : a ≠ p ∧ H a = some o := by
  unfold hid at h
  split at h
  · cases h
  · rename_i q; exact ⟨q, h⟩
theorem hid_same {p : Addr} {H : Hp} : Same (hid p H) H := fun a o h => (hid_out h).2
theorem hid_mono {p : Addr} {H H' : Hp} (e : Same H H') : Same (hid p H) (hid p H') := fun a o h => hid_at (hid_out h).1 (e a o (hid_out h).2)
theorem hid_upd {p : Addr} {H : Hp} {o : HO} : Same (hid p H) (hid p (upd H p o)) := fun a u h => hid_at (hid_out h).1 (by rw [upd_ne (hid_out h).1]; exact (hid_out h).2)
theorem dpAll_set {K : PySem.W.Frag} {H : Hp} : ∀ {vs : List V} {ds : List PyData} (j : Nat) {v : V} {d : PyData}, DpAll K H vs ds → Dp K H v d → DpAll K H (vs.set j v) (ds.set j d)
  | _, _, _, _, _, .nil, _ => .nil
  | _, _, 0, _, _, .cons h hr, hv => .cons hv hr
  | _, _, j + 1, _, _, .cons h hr, hv => .cons h (dpAll_set j hr hv)
structure At (K : PySem.W.Frag) (p : Addr) (H : Hp) (acc : List V) (es : List PyData) : Prop where
  at_ : H p = some (.lst acc)
  dp : DpAll K (hid p H) acc es
section
variable {K : PySem.W.Frag} {p : Addr} {H H1 : Hp} {acc : List V} {es : List PyData}
theorem At.len (h : At K p H acc es) : acc.length = es.length := dpAll_len h.dp
theorem At.ex (h : At K p H acc es) (e : Same H H1) : At K p H1 acc es := ⟨e _ _ h.at_, dpAll_mono (hid_mono e) h.dp⟩
theorem At.push (h : At K p H acc es) {v : V} {d : PyData} (hv : Dp K (hid p H) v d) : At K p (upd H p (.lst (acc ++ [v]))) (acc ++ [v]) (es ++ [d]) :=
  ⟨upd_same, dpAll_mono hid_upd (dpAll_append h.dp (.cons hv .nil))⟩
theorem At.set (h : At K p H acc es) (j : Nat) {v : V} {d : PyData} (hv : Dp K (hid p H) v d) : At K p (upd H p (.lst (acc.set j v))) (acc.set j v) (es.set j d) :=
  ⟨upd_same, dpAll_mono hid_upd (dpAll_set j h.dp hv)⟩
theorem At.new (h : At K p H acc es) {q : Addr} {ys : List V} {ds : List PyData} (hq : H q = none) (e : Same H H1) (h1 : H1 q = some (.tup ys)) (hd : DpAll K (hid p H1) ys ds) : Dp K (hid p H1) (.ref q) (.tuple ds) := by
  have hn : q ≠ p := fun z => by rw [z, h.at_] at hq; cases hq
  exact .tup (st_of (hid_at hn h1)) hd
end
theorem set_mid {α : Type} {x y : α} : ∀ {l r : List α}, (l ++ x :: r).set l.length y = l ++ y :: r
  | [], _ => rfl
  | a :: l, r => by
    show a :: (l ++ x :: r).set l.length y = a :: (l ++ y :: r)
    rw [set_mid]
section
variable {K : PySem.W.Frag} {σ : L2.St} {H : Hp} {ta tb te : TE} {D : Ends} {tz : TS}
theorem s_setU {l : Addr} {xs ys : List V} {j : Nat} (hl : H l = some (.lst xs)) (h : EvU te σ H ys) (ho : Ev ta σ H (.ref l)) (hi : Ev tb σ H (.int (j : Int))) (hj : j < xs.length) (k : ∀ p H1, H p = none → Ex H H1 → H1 p = some (.tup ys) → D.nx σ (upd H1 l (.lst (xs.set j (.ref p))))) :
    tAsg te (gSub ta tb rSetL) D σ H := h H (Ex.refl H) _ fun p H1 hp e1 hp1 => ho H1 e1 _ fun H2 e2 => hi H2 (e1.trans e2) _ fun H3 e3 =>
  ⟨l, xs, (j : Int), j, rfl, rfl, ((e1.trans e2).trans e3) l _ hl, ixN_nat hj, k p H3 hp ((e1.trans e2).trans e3) (e3 _ _ (e2 _ _ hp1))⟩
theorem q_setU {l : Addr} {xs ys : List V} {j : Nat} (hl : H l = some (.lst xs)) (h : EvU te σ H ys) (ho : Ev ta σ H (.ref l)) (hi : Ev tb σ H (.int (j : Int))) (hj : j < xs.length) (k : ∀ p H1, H p = none → Ex H H1 → H1 p = some (.tup ys) → tz D σ (upd H1 l (.lst (xs.set j (.ref p))))) :
    tSeq (tAsg te (gSub ta tb rSetL)) tz D σ H := s_setU (D := { D with nx := tz D }) hl h ho hi hj k
end

end Nt

namespace Nt
open PySem PySem.Spec PyProof.Rows L2 Evl
/-! ### place_while, place_if, place_body -/
def spPB (K : PySem.W.Frag) (f : Nat) : Sp := fun vs H Q _ => ∃ (p : Addr) (acc : List V) (es : List PyData) (v : V) (b : PyData) (kind : Str) (n : Int), vs = [.ref p, v] ∧ At K p H acc es ∧ Dp K (hid p H) v b ∧ Sm b ∧ cntBody kind f b = some n ∧ (es.length : Int) + 2 * n ≤ 10000 ∧
  ∀ acc' H', Same (hid p H) (hid p H') → At K p H' acc' (es ++ codeBody f es.length b) → Q .non H'
def spPW (K : PySem.W.Frag) (f : Nat) : Sp := fun vs H Q _ => ∃ (p q : Addr) (acc : List V) (es : List PyData) (vc v : V) (c b : PyData) (kind : Str) (n : Int), vs = [.ref p, .ref q] ∧ At K p H acc es ∧ SqL K (hid p H) q [vc, v] ∧ Dp K (hid p H) vc c ∧ Dp K (hid p H) v b ∧ Sm b ∧ cntBody kind f b = some n ∧ (es.length : Int) + 2 * (1 + n) ≤ 10000 ∧
  ∀ acc' H', Same (hid p H) (hid p H') → At K p H' acc' (es ++ codeWhile (codeBody f) es.length c b) → Q .non H'
def spPI (K : PySem.W.Frag) (f : Nat) : Sp := fun vs H Q _ => ∃ (p q : Addr) (acc : List V) (es : List PyData) (vc v1 v2 : V) (c b1 b2 : PyData) (kind : Str) (n1 n2 : Int), vs = [.ref p, .ref q] ∧ At K p H acc es ∧ SqL K (hid p H) q [vc, v1, v2] ∧ Dp K (hid p H) vc c ∧ Dp K (hid p H) v1 b1 ∧ Dp K (hid p H) v2 b2 ∧ Sm b1 ∧ Sm b2 ∧ cntBody kind f b1 = some n1 ∧ cntBody kind f b2 = some n2 ∧ (es.length : Int) + 2 * (1 + n1 + n2) ≤ 10000 ∧
  ∀ acc' H', Same (hid p H) (hid p H') → At K p H' acc' (es ++ codeIf (codeBody f) es.length c b1 b2) → Q .non H'
section
variable {P : Program} {w : World} {K : PySem.W.Frag} {mg : Str → Option Value} {base : Heap}
theorem ok_place_while (T : Txt w K mg) (f k : Nat) (D_place_body : Def P w K mg base CX0 k "place_body" ["code", "body"] (spPB K f)) : Def P w K mg base CX0 (k + 1) "place_while" ["code", "parts"] (spPW K f) := by
  refine mkDef T.F_place_while T.g_place_while sc_place_while (fun _ _ _ _ _ _ us hl => match us, hl with | [_, _], _ => rfl) (fun vs H Q E h => ?_) (fun cdv A outer s H vs Q E hr h => ?_)
  · obtain ⟨p, q, acc, es, vc, v, c, b, kind, n, rfl, _⟩ := h; rfl
  · obtain ⟨p, q, acc, es, vc, v, c, b, kind, n, rfl, h0, hq, hc, hb, hs, hn, hsz, kk⟩ := h
    have hcl := code_len f b n (es.length + 1) hn
    have hn0 := body_nn hn
    have hal := h0.len
    refine ⟨_, (PSs.nox (pss_cons (ps_asg (pv 1) (pg_unl (n := 2) rfl (pgs_cons (pg_name (i := 2) sc_place_while.nd rfl (Or.inl rfl)) (pgs_cons (pg_name (i := 3) sc_place_while.nd rfl (Or.inl rfl)) pgs_nil))))
      (pss_cons (ps_set (i := 4) sc_place_while.nd rfl (Or.inl rfl) (pe_callB call_len_seq (by rfl) T.m_len boot_len (pa_cons (pv 0) pa_nil)))
      (pss_cons (ps_expr (pe_bm PySem.F.plainAttrs_list PySem.F.slot_list_append PySem.F.type_list_append mt_append (pv 0) (pa_cons (pe_tup pa_nil) pa_nil)))
      (pss_cons (ps_expr (pe_callD D_place_body (hr.mono (by omega)) rfl pass0 (pa_cons (pv 0) (pa_cons (pv 3) pa_nil))))
      (pss_cons (ps_expr (pe_bm PySem.F.plainAttrs_list PySem.F.slot_list_append PySem.F.type_list_append mt_append (pv 0) (pa_cons (pe_tup (pa_cons pe_str (pa_cons (pv 4) pa_nil))) pa_nil)))
      (pss_one (ps_asg (pe_tup (pa_cons pe_str (pa_cons (pv 2) (pa_cons (pe_callB call_len_seq (by rfl) T.m_len boot_len (pa_cons (pv 0) pa_nil)) pa_nil)))) (pg_sub (pv 0) (pv 4) set_list))))))))), ?_⟩
    refine ⟨_, rfl, q, _, rfl, ex_l hid_same hq, rfl, _, _, rfl, _, _, rfl, rfl, ?_⟩
    show tSeq _ _ _ [some (.ref p), some (.ref q), some vc, some v, none] H
    refine q_asg (ev_cb (ea_cons (ev_var rfl) ea_nil) (rc_lenL (sq_of h0.at_))) fun H1 e1 => ?_
    have h1 := h0.ex e1
    refine q_appU h1.at_ (ev_var rfl) (eu_tup ea_nil (by show 0 ≤ 100000; decide)) (by omega) fun p2 H2 hp2 e2 hp2' => ?_
    have h2 := (h1.ex e2).push (h1.new hp2 e2 hp2' .nil)
    have s2 : Same (hid p H) (hid p (upd H2 p (.lst (acc ++ [.ref p2])))) := (hid_mono (e1.trans e2)).trans hid_upd
    generalize upd H2 p (.lst (acc ++ [.ref p2])) = H3 at h2 s2
    refine c_call (ea_cons (ev_var rfl) (ea_cons (ev_var rfl) ea_nil)) fun H4 e4 => ?_
    have s4 := s2.trans (hid_mono e4)
    refine ⟨p, _, _, v, b, kind, n, rfl, h2.ex e4, dp_mono s4 hb, hs, hn, by rw [List.length_append, List.length_singleton]; omega, fun acc5 H5 s5 h5 => ?_⟩
    have el : (es ++ [PyData.tuple []]).length = es.length + 1 := by rw [List.length_append, List.length_singleton]
    rw [el] at h5
    have s05 := s4.trans s5
    have hal5 := h5.len
    rw [List.length_append, el] at hal5
    -- code.append(("jump", test))
    refine q_appU h5.at_ (ev_var rfl) (eu_tup (ea_cons ev_c (ea_cons (ev_var rfl) ea_nil)) (by show 2 ≤ 100000; decide)) (by omega) fun p6 H6 hp6 e6 hp6' => ?_
    have h6 := (h5.ex e6).push (h5.new (ds := [.str "jump", .int (acc.length : Int)]) hp6 e6 hp6' (.cons (.str _) (.cons (.int _) .nil)))
    have s6 : Same (hid p H) (hid p (upd H6 p (.lst (acc5 ++ [.ref p6])))) := s05.trans ((hid_mono e6).trans hid_upd)
    generalize upd H6 p (.lst (acc5 ++ [.ref p6])) = H7 at h6 s6
    -- code[test] = ("test", condition, len(code))
    refine s_setU (j := acc.length) h6.at_ (eu_tup (ea_cons ev_c (ea_cons (ev_var rfl) (ea_cons (ev_cb (ea_cons (ev_var rfl) ea_nil) (rc_lenL (sq_of h6.at_))) ea_nil))) (by show 3 ≤ 100000; decide)) (ev_var rfl) (ev_var rfl) (by rw [List.length_append, hal5]; omega) fun p8 H8 hp8 e8 hp8' => ?_
    have hdc := dp_mono (s6.trans (hid_mono e8)) hc
    have h8 := (h6.ex e8).set acc.length (h6.new (ds := [.str "test", c, .int ((acc5 ++ [V.ref p6]).length : Int)]) hp8 e8 hp8' (.cons (.str _) (.cons hdc (.cons (.int _) .nil))))
    refine kk ((acc5 ++ [V.ref p6]).set acc.length (V.ref p8)) _ (s6.trans ((hid_mono e8).trans hid_upd)) ?_
    have e9 : ((es ++ [PyData.tuple []] ++ codeBody f (es.length + 1) b ++ [PyData.tuple [.str "jump", .int (acc.length : Int)]]).set acc.length (.tuple [.str "test", c, .int ((acc5 ++ [V.ref p6]).length : Int)])) = es ++ codeWhile (codeBody f) es.length c b := by
      have e1 : es ++ [PyData.tuple []] ++ codeBody f (es.length + 1) b ++ [PyData.tuple [.str "jump", .int (acc.length : Int)]] = es ++ PyData.tuple [] :: (codeBody f (es.length + 1) b ++ [PyData.tuple [.str "jump", .int (acc.length : Int)]]) := by
        rw [List.append_assoc, List.append_assoc, List.singleton_append]
      rw [e1, hal, set_mid]
      unfold codeWhile tstD jmpD
      have e2 : ((acc5 ++ [V.ref p6]).length : Int) = ((es.length + (codeBody f (es.length + 1) b).length + 2 : Nat) : Int) := by rw [List.length_append, hal5, List.length_singleton]; omega
      rw [e2]
    rw [← e9]
    exact h8
theorem nil_cases {f : Nat} {kind : Str} {b : PyData} {n : Int} (h : cntBody kind f b = some n) : ∃ ss, b = .tuple ss ∧ isNil b = decide (ss.length = 0) := by
  obtain ⟨ss, rfl⟩ := body_tup h
  refine ⟨ss, rfl, ?_⟩
  cases ss with
  | nil => rfl
  | cons a l => rw [decide_eq_false (by rw [List.length_cons]; omega)]; rfl
theorem ok_place_if (T : Txt w K mg) (f k : Nat) (D_place_body : Def P w K mg base CX0 k "place_body" ["code", "body"] (spPB K f)) : Def P w K mg base CX0 (k + 1) "place_if" ["code", "parts"] (spPI K f) := by
  refine mkDef T.F_place_if T.g_place_if sc_place_if (fun _ _ _ _ _ _ us hl => match us, hl with | [_, _], _ => rfl) (fun vs H Q E h => ?_) (fun cdv A outer s H vs Q E hr h => ?_)
  · obtain ⟨p, q, acc, es, vc, v1, v2, c, b1, b2, kind, n1, n2, rfl, _⟩ := h; rfl
  · obtain ⟨p, q, acc, es, vc, v1, v2, c, b1, b2, kind, n1, n2, rfl, h0, hq, hc, hb1, hb2, hs1, hs2, hn1, hn2, hsz, kk⟩ := h
    have hcl1 := code_len f b1 n1 (es.length + 1) hn1
    have hcl2 := code_len f b2 n2 (es.length + (codeBody f (es.length + 1) b1).length + 2) hn2
    have hn10 := body_nn hn1
    have hn20 := body_nn hn2
    have hal := h0.len
    obtain ⟨ss, rfl, hnil⟩ := nil_cases hn2
    obtain ⟨a2, xs2, rfl, hx2, hds2⟩ := dpT hb2
    have hl2 := dpAll_len hds2
    refine ⟨_, (PSs.nox (pss_cons (ps_asg (pv 1) (pg_unl (n := 3) rfl (pgs_cons (pg_name (i := 2) sc_place_if.nd rfl (Or.inl rfl)) (pgs_cons (pg_name (i := 3) sc_place_if.nd rfl (Or.inl rfl)) (pgs_cons (pg_name (i := 4) sc_place_if.nd rfl (Or.inl rfl)) pgs_nil)))))
      (pss_cons (ps_set (i := 5) sc_place_if.nd rfl (Or.inl rfl) (pe_callB call_len_seq (by rfl) T.m_len boot_len (pa_cons (pv 0) pa_nil)))
      (pss_cons (ps_expr (pe_bm PySem.F.plainAttrs_list PySem.F.slot_list_append PySem.F.type_list_append mt_append (pv 0) (pa_cons (pe_tup pa_nil) pa_nil)))
      (pss_cons (ps_expr (pe_callD D_place_body (hr.mono (by omega)) rfl pass0 (pa_cons (pv 0) (pa_cons (pv 3) pa_nil))))
      (pss_cons (ps_set (i := 6) sc_place_if.nd rfl (Or.inl rfl) (pe_callB call_len_seq (by rfl) T.m_len boot_len (pa_cons (pv 0) pa_nil)))
      (pss_cons (ps_if (pt_cmpR op_gt (pe_callB call_len_seq (by rfl) T.m_len boot_len (pa_cons (pv 4) pa_nil)) pe_int (nomark _)) (pss_one (ps_expr (pe_bm PySem.F.plainAttrs_list PySem.F.slot_list_append PySem.F.type_list_append mt_append (pv 0) (pa_cons (pe_tup pa_nil) pa_nil)))) pss_nil)
      (pss_cons (ps_asg (pe_tup (pa_cons pe_str (pa_cons (pv 2) (pa_cons (pe_callB call_len_seq (by rfl) T.m_len boot_len (pa_cons (pv 0) pa_nil)) pa_nil)))) (pg_sub (pv 0) (pv 5) set_list))
      (pss_cons (ps_expr (pe_callD D_place_body (hr.mono (by omega)) rfl pass0 (pa_cons (pv 0) (pa_cons (pv 4) pa_nil))))
      (pss_one (ps_if (pt_cmpR op_gt (pe_callB call_len_seq (by rfl) T.m_len boot_len (pa_cons (pv 4) pa_nil)) pe_int (nomark _)) (pss_one (ps_asg (pe_tup (pa_cons pe_str (pa_cons (pe_callB call_len_seq (by rfl) T.m_len boot_len (pa_cons (pv 0) pa_nil)) pa_nil))) (pg_sub (pv 0) (pv 6) set_list))) pss_nil))))))))))), ?_⟩
    refine ⟨_, rfl, q, _, rfl, ex_l hid_same hq, rfl, _, _, rfl, _, _, rfl, _, _, rfl, rfl, ?_⟩
    show tSeq _ _ _ [some (.ref p), some (.ref q), some vc, some v1, some (.ref a2), none, none] H
    refine q_asg (ev_cb (ea_cons (ev_var rfl) ea_nil) (rc_lenL (sq_of h0.at_))) fun H1 e1 => ?_
    have h1 := h0.ex e1
    refine q_appU h1.at_ (ev_var rfl) (eu_tup ea_nil (by show 0 ≤ 100000; decide)) (by omega) fun p2 H2 hp2 e2 hp2' => ?_
    have h2 := (h1.ex e2).push (h1.new hp2 e2 hp2' .nil)
    have s2 : Same (hid p H) (hid p (upd H2 p (.lst (acc ++ [.ref p2])))) := (hid_mono (e1.trans e2)).trans hid_upd
    generalize upd H2 p (.lst (acc ++ [.ref p2])) = H3 at h2 s2
    refine c_call (ea_cons (ev_var rfl) (ea_cons (ev_var rfl) ea_nil)) fun H4 e4 => ?_
    have s4 := s2.trans (hid_mono e4)
    refine ⟨p, _, _, v1, b1, kind, n1, rfl, h2.ex e4, dp_mono s4 hb1, hs1, hn1, by rw [List.length_append, List.length_singleton]; omega, fun acc5 H5 s5 h5 => ?_⟩
    have el : (es ++ [PyData.tuple []]).length = es.length + 1 := by rw [List.length_append, List.length_singleton]
    rw [el] at h5
    have s05 := s4.trans s5
    have hal5 := h5.len
    rw [List.length_append, el] at hal5
    generalize hk1 : codeBody f (es.length + 1) b1 = k1 at *
    -- jump = len(code)
    refine q_asg (ev_cb (ea_cons (ev_var rfl) ea_nil) (rc_lenL (sq_of h5.at_))) fun H6 e6 => ?_
    have h6 := h5.ex e6
    have s06 := s05.trans (hid_mono e6)
    have hlen : ∀ H', Same (hid p H) (hid p H') → Ev (tCB (rLenS K) (tCons (tVar 4) tNil)) [some (.ref p), some (.ref q), some vc, some v1, some (.ref a2), some (.int (acc.length : Int)), some (.int (acc5.length : Int))] H' (.int (ss.length : Int)) := fun H' s' => by
      rw [← hl2]
      exact ev_cb (ea_cons (ev_var rfl) ea_nil) (rc_lenT (ex_t hid_same (ex_t s' hx2)))
    cases hss : decide (ss.length = 0) with
    | true =>
      have hs0 : ss.length = 0 := of_decide_eq_true hss
      rw [hss] at hnil
      have hss0 : ss = [] := List.eq_nil_of_length_eq_zero hs0
      refine q_when (b := false) (et_is (et_test (ev_op (hlen H6 s06) ev_c rv_gt)) (decide_eq_false (by omega))) (fun q => by cases q) fun _ H7 e7 => ?_
      have h7 := h6.ex e7
      refine q_setU (j := acc.length) h7.at_ (eu_tup (ea_cons ev_c (ea_cons (ev_var rfl) (ea_cons (ev_cb (ea_cons (ev_var rfl) ea_nil) (rc_lenL (sq_of h7.at_))) ea_nil))) (by show 3 ≤ 100000; decide)) (ev_var rfl) (ev_var rfl) (by rw [hal5]; omega) fun p8 H8 hp8 e8 hp8' => ?_
      have s08 := s06.trans (hid_mono (e7.trans e8))
      have hdc := dp_mono s08 hc
      have h8 := (h7.ex e8).set acc.length (h7.new (ds := [.str "test", c, .int (acc5.length : Int)]) hp8 e8 hp8' (.cons (.str _) (.cons hdc (.cons (.int _) .nil))))
      have s8 : Same (hid p H) (hid p (upd H8 p (.lst (acc5.set acc.length (.ref p8))))) := s08.trans hid_upd
      have e9 : ((es ++ [PyData.tuple []] ++ k1).set acc.length (.tuple [.str "test", c, .int (acc5.length : Int)])) = es ++ codeIf (codeBody f) es.length c b1 (.tuple ss) := by
        have e1 : es ++ [PyData.tuple []] ++ k1 = es ++ PyData.tuple [] :: k1 := by rw [List.append_assoc, List.singleton_append]
        rw [e1, hal, set_mid]
        unfold codeIf
        rw [if_pos hnil, hk1]
        unfold tstD
        have e2 : (acc5.length : Int) = ((es.length + k1.length + 1 : Nat) : Int) := by rw [hal5]; omega
        rw [e2]
      rw [e9] at h8
      generalize upd H8 p (.lst (acc5.set acc.length (.ref p8))) = H9 at h8 s8
      refine c_call (ea_cons (ev_var rfl) (ea_cons (ev_var rfl) ea_nil)) fun H10 e10 => ?_
      have h10 := h8.ex e10
      have s10 := s8.trans (hid_mono e10)
      have hl10 := h10.len
      have hl8 : (es ++ codeIf (codeBody f) es.length c b1 (.tuple ss)).length = es.length + k1.length + 1 := by
        rw [← e9, List.length_set, List.length_append, el]; omega
      refine ⟨p, _, _, .ref a2, .tuple ss, kind, n2, rfl, h10, dp_mono s10 hb2, hs2, hn2, by rw [hl8]; omega, fun acc11 H11 s11 h11 => ?_⟩
      rw [hss0, codeBody_nil, List.append_nil, ← hss0] at h11
      have s011 := s10.trans s11
      refine s_when (b := false) (et_is (et_test (ev_op (hlen H11 s011) ev_c rv_gt)) (decide_eq_false (by omega))) (fun q => by cases q) fun _ H12 e12 => kk _ _ (s011.trans (hid_mono e12)) (h11.ex e12)
    | false =>
      have hs0 : ¬ ss.length = 0 := of_decide_eq_false hss
      rw [hss] at hnil
      refine q_when (b := true) (et_is (et_test (ev_op (hlen H6 s06) ev_c rv_gt)) (decide_eq_true (by omega))) (fun _ H7 e7 => ?_) fun q => by cases q
      have h7 := h6.ex e7
      refine s_appU h7.at_ (ev_var rfl) (eu_tup ea_nil (by show 0 ≤ 100000; decide)) (by omega) fun p8 H8 hp8 e8 hp8' => ?_
      have h8 := (h7.ex e8).push (h7.new hp8 e8 hp8' .nil)
      have s8 : Same (hid p H) (hid p (upd H8 p (.lst (acc5 ++ [.ref p8])))) := s06.trans ((hid_mono (e7.trans e8)).trans hid_upd)
      generalize upd H8 p (.lst (acc5 ++ [.ref p8])) = H9 at h8 s8
      show tSeq _ _ _ _ H9
      refine q_setU (j := acc.length) h8.at_ (eu_tup (ea_cons ev_c (ea_cons (ev_var rfl) (ea_cons (ev_cb (ea_cons (ev_var rfl) ea_nil) (rc_lenL (sq_of h8.at_))) ea_nil))) (by show 3 ≤ 100000; decide)) (ev_var rfl) (ev_var rfl) (by rw [List.length_append, hal5]; omega) fun pA HA hpA eA hpA' => ?_
      have s0A := s8.trans (hid_mono eA)
      have hdc := dp_mono s0A hc
      have hA := (h8.ex eA).set acc.length (h8.new (ds := [.str "test", c, .int ((acc5 ++ [V.ref p8]).length : Int)]) hpA eA hpA' (.cons (.str _) (.cons hdc (.cons (.int _) .nil))))
      have sA : Same (hid p H) (hid p (upd HA p (.lst ((acc5 ++ [V.ref p8]).set acc.length (.ref pA))))) := s0A.trans hid_upd
      have e9 : ((es ++ [PyData.tuple []] ++ k1 ++ [PyData.tuple []]).set acc.length (.tuple [.str "test", c, .int ((acc5 ++ [V.ref p8]).length : Int)])) = es ++ tstD c (es.length + k1.length + 2) :: (k1 ++ [PyData.tuple []]) := by
        have e1 : es ++ [PyData.tuple []] ++ k1 ++ [PyData.tuple []] = es ++ PyData.tuple [] :: (k1 ++ [PyData.tuple []]) := by rw [List.append_assoc, List.append_assoc, List.singleton_append]
        rw [e1, hal, set_mid]
        unfold tstD
        have e2 : ((acc5 ++ [V.ref p8]).length : Int) = ((es.length + k1.length + 2 : Nat) : Int) := by rw [List.length_append, hal5, List.length_singleton]; omega
        rw [e2]
      rw [e9] at hA
      generalize upd HA p (.lst ((acc5 ++ [V.ref p8]).set acc.length (.ref pA))) = HB at hA sA
      refine c_call (ea_cons (ev_var rfl) (ea_cons (ev_var rfl) ea_nil)) fun H10 e10 => ?_
      have h10 := hA.ex e10
      have s10 := sA.trans (hid_mono e10)
      have hl8 : (es ++ tstD c (es.length + k1.length + 2) :: (k1 ++ [PyData.tuple []])).length = es.length + k1.length + 2 := by
        rw [List.length_append, List.length_cons, List.length_append, List.length_singleton]; omega
      refine ⟨p, _, _, .ref a2, .tuple ss, kind, n2, rfl, h10, dp_mono s10 hb2, hs2, hn2, by rw [hl8]; omega, fun acc11 H11 s11 h11 => ?_⟩
      rw [hl8] at h11
      have s011 := s10.trans s11
      have hl11 := h11.len
      rw [List.length_append, hl8] at hl11
      generalize hk2 : codeBody f (es.length + k1.length + 2) (.tuple ss) = k2 at *
      refine s_when (b := true) (et_is (et_test (ev_op (hlen H11 s011) ev_c rv_gt)) (decide_eq_true (by omega))) (fun _ H12 e12 => ?_) fun q => by cases q
      have h12 := h11.ex e12
      refine s_setU (j := acc5.length) h12.at_ (eu_tup (ea_cons ev_c (ea_cons (ev_cb (ea_cons (ev_var rfl) ea_nil) (rc_lenL (sq_of h12.at_))) ea_nil)) (by show 2 ≤ 100000; decide)) (ev_var rfl) (ev_var rfl) (by rw [hal5, hl11]; omega) fun pC HC hpC eC hpC' => ?_
      have hC := (h12.ex eC).set acc5.length (h12.new (ds := [.str "jump", .int (acc11.length : Int)]) hpC eC hpC' (.cons (.str _) (.cons (.int _) .nil)))
      refine kk (acc11.set acc5.length (V.ref pC)) _ (s011.trans ((hid_mono (e12.trans eC)).trans hid_upd)) ?_
      have eF : ((es ++ tstD c (es.length + k1.length + 2) :: (k1 ++ [PyData.tuple []]) ++ k2).set acc5.length (.tuple [.str "jump", .int (acc11.length : Int)])) = es ++ codeIf (codeBody f) es.length c b1 (.tuple ss) := by
        have e1 : es ++ tstD c (es.length + k1.length + 2) :: (k1 ++ [PyData.tuple []]) ++ k2 = (es ++ tstD c (es.length + k1.length + 2) :: k1) ++ PyData.tuple [] :: k2 := by
          rw [List.append_assoc, List.append_assoc, List.cons_append, List.cons_append, List.append_assoc, List.singleton_append]
        have e2 : acc5.length = (es ++ tstD c (es.length + k1.length + 2) :: k1).length := by rw [hal5, List.length_append, List.length_cons]; omega
        rw [e1, e2, set_mid]
        unfold codeIf
        rw [if_neg (by rw [hnil]; exact Bool.false_ne_true), hk1, hk2]
        have e3 : (acc11.length : Int) = ((es.length + k1.length + 2 + k2.length : Nat) : Int) := by rw [hl11]
        rw [e3, List.append_assoc, List.cons_append]
        rfl
      rw [← eF]
      exact hC
end

end Nt

namespace Nt
open PySem PySem.Spec PyProof.Rows L2 Evl
/-! ### place_body, assemble -/
theorem sumO_at {l : List (Option Int)} {n : Int} (h : sumO l = some n) (hnn : ∀ a, some a ∈ l → 0 ≤ a) {i : Nat} {o : Option Int} (hi : l[i]? = some o) : ∃ a m r, sumO (l.take i) = some a ∧ o = some m ∧ n = a + (m + r) ∧ 0 ≤ r := by
  have hlt : i < l.length := by
    rcases Nat.lt_or_ge i l.length with q | q
    · exact q
    · rw [List.getElem?_eq_none q] at hi; cases hi
  have e : l = l.take i ++ o :: l.drop (i + 1) := by
    have e1 := List.take_append_drop i l
    rw [List.drop_eq_getElem_cons hlt] at e1
    rw [List.getElem?_eq_getElem hlt] at hi
    cases hi
    exact e1.symm
  have h2 := h
  rw [e, sumO_append, sumO_cons] at h2
  cases q1 : sumO (l.take i) with
  | none => rw [q1] at h2; cases h2
  | some a =>
    cases o with
    | none => rw [q1] at h2; cases h2
    | some m =>
      cases q2 : sumO (l.drop (i + 1)) with
      | none => rw [q1, q2] at h2; cases h2
      | some r =>
        rw [q1, q2] at h2
        have h2 : a + (m + r) = n := by injection h2
        exact ⟨a, m, r, rfl, rfl, h2.symm, (sumO_nn q2 fun x hx => hnn x (List.mem_of_mem_drop hx)).1⟩
def blkTab (K : PySem.W.Frag) : List (Str × V) := [("if", .ref (He.ga K "place_if")), ("while", .ref (He.ga K "place_while"))]
theorem blk_is (K : PySem.W.Frag) (z : Str) : ((blkTab K).lookup z).isSome = isBlk z := by
  unfold blkTab isBlk
  rw [List.lookup_cons, List.lookup_cons, List.lookup_nil]
  cases (z == "if") <;> cases (z == "while") <;> rfl
theorem blk_if (K : PySem.W.Frag) : List.lookup ("if" : Str) (blkTab K) = some (V.ref (He.ga K "place_if")) := by
  unfold blkTab; rw [List.lookup_cons, beq_self_eq_true]
theorem blk_while (K : PySem.W.Frag) : List.lookup ("while" : Str) (blkTab K) = some (V.ref (He.ga K "place_while")) := by
  unfold blkTab
  rw [List.lookup_cons, List.lookup_cons, beq_self_eq_true, show (("while" : Str) == "if") = false by decide +kernel]
def PlA (K : PySem.W.Frag) (g : Option Nat) : Addr → Sp → Prop := fun f sp => ∃ n, g = some n ∧ ((f = He.ga K "place_if" ∧ sp = spPI K n) ∨ (f = He.ga K "place_while" ∧ sp = spPW K n))
def prevN : Nat → Option Nat
  | 0 => none
  | n + 1 => some n
theorem stmt_pos {kind : Str} {f : Nat} {s : PyData} {m : Int} (h : cntStmt kind (cntBody kind f) s = some m) : 1 ≤ m := (sd_stmt (by omega) (sd_body (kind := kind) f) h).1
section
variable {P : Program} {w : World} {K : PySem.W.Frag} {mg : Str → Option Value} {base : Heap}
theorem ok_place_body1 (T : Txt w K mg) (f k : Nat) (hA_place : ∀ a sp, PlA K (prevN f) a sp → Held P w K mg base k a sp) : Def P w K mg base CX0 (k + 1) "place_body" ["code", "body"] (spPB K f) := by
  refine mkDef T.F_place_body T.g_place_body sc_place_body (fun _ _ _ _ _ _ us hl => match us, hl with | [_, _], _ => rfl) (fun vs H Q E h => ?_) (fun cdv A outer s H vs Q E hr h => ?_)
  · obtain ⟨p, acc, es, v, b, kind, n, rfl, _⟩ := h; rfl
  · obtain ⟨p, acc, es, v, b, kind, n, rfl, h0, hb, hs, hn, hsz, kk⟩ := h
    obtain ⟨ss, rfl⟩ := body_tup hn
    obtain ⟨a, xs, rfl, hx, hds⟩ := dpT hb
    have hlx := dpAll_len hds
    have hcl := code_len f (.tuple ss) n es.length hn
    have hn0 := body_nn hn
    refine ⟨_, (PSs.nox (pss_one (ps_for PassesOwn.never rfl (pi_tup (pv 1)) (pg_name (i := 2) sc_place_body.nd rfl (Or.inl rfl)) (pss_cons (ps_asg (pv 2) (pg_star (n := 2) (i := 1) rfl (pgs_cons (pg_name (i := 3) sc_place_body.nd rfl (Or.inl rfl)) (pgs_star (pg_name (i := 4) sc_place_body.nd rfl (Or.inl rfl))))))
      (pss_one (ps_if (pt_cmpR (op_in_tab T.d_BLOCKS) (pv 3) (pe_gref rfl T.g_BLOCKS) (by rfl)) (pss_cons (ps_set (i := 5) sc_place_body.nd rfl (Or.inl rfl) (pe_ix (ix_tab T.d_BLOCKS) (pe_gref rfl T.g_BLOCKS) (pv 3) (fun _ _ => rfl)))
      (pss_one (ps_expr (pe_callH (i := 5) hA_place (hr.mono (by omega)) rfl (Or.inl rfl) (pa_cons (pv 0) (pa_cons (pv 4) pa_nil)))))) (pss_one (ps_expr (pe_bm PySem.F.plainAttrs_list PySem.F.slot_list_append PySem.F.type_list_append mt_append (pv 0) (pa_cons (pv 2) pa_nil)))))))))), ?_⟩
    refine s_forT (ev_var rfl) (ex_t hid_same hx) (fun i σ' H' => ∃ (acc' : List V) (o2 o3 o4 o5 : Option V), σ' = [some (.ref p), some (.ref a), o2, o3, o4, o5] ∧ Same (hid p H) (hid p H') ∧ At K p H' acc' (es ++ codeBody f es.length (.tuple (ss.take i)))) (fun H1 e1 => ?_) ?_ ?_ ?_
    · refine ⟨acc, none, none, none, none, rfl, hid_mono e1, ?_⟩
      rw [List.take_zero, codeBody_nil, List.append_nil]
      exact h0.ex e1
    · rintro i σ' H' hi ⟨acc', o2, o3, o4, o5, rfl, s1, h1⟩
      exact ex_t hid_same (ex_t s1 hx)
    · rintro i x σ' H1 hi ⟨acc1, o2, o3, o4, o5, rfl, s1, h1⟩
      obtain ⟨s0, hs0, hxs0⟩ := dpAll_get (dpAll_mono s1 hds) hi
      cases f with
      | zero =>
        cases ss with
        | nil => cases hs0
        | cons y ys => cases hn
      | succ g =>
        rw [cntBody_S] at hn
        rw [codeBody_S] at h1
        have hnn : ∀ a, some a ∈ ss.map (cntStmt kind (cntBody kind g)) → 0 ≤ a := fun a ha => by
          obtain ⟨y, _, e⟩ := List.mem_map.mp ha
          have := stmt_pos e
          omega
        obtain ⟨sa, m, r, hta, hm, hsum, hr0⟩ := sumO_at hn hnn (i := i) (o := cntStmt kind (cntBody kind g) s0) (by rw [List.getElem?_map, hs0]; rfl)
        rw [← List.map_take] at hta
        have hcl1 := code_len (g + 1) (.tuple (ss.take i)) sa es.length (kind := kind) (by rw [cntBody_S]; exact hta)
        rw [codeBody_S] at hcl1
        have hm1 := stmt_pos hm
        have htake : ss.take (i + 1) = ss.take i ++ [s0] := by
          have hlt : i < ss.length := by
            rcases Nat.lt_or_ge i ss.length with q | q
            · exact q
            · rw [List.getElem?_eq_none q] at hs0; cases hs0
          rw [List.getElem?_eq_getElem hlt] at hs0
          cases hs0
          exact (List.take_append_getElem hlt).symm
        have hsmS := hs.tupI.2 s0 (List.mem_of_getElem? hs0)
        have hgoal : ∀ acc' H' σ', (∃ o2 o3 o4 o5 : Option V, σ' = [some (.ref p), some (.ref a), o2, o3, o4, o5]) → Same (hid p H) (hid p H') → At K p H' acc' (es ++ codeStmts (codeStmt (codeBody g)) es.length (ss.take i) ++ codeStmt (codeBody g) (es ++ codeStmts (codeStmt (codeBody g)) es.length (ss.take i)).length s0) → ∃ (acc' : List V) (o2 o3 o4 o5 : Option V), σ' = [some (.ref p), some (.ref a), o2, o3, o4, o5] ∧ Same (hid p H) (hid p H') ∧ At K p H' acc' (es ++ codeBody (g + 1) es.length (.tuple (ss.take (i + 1)))) := by
          rintro acc' H' σ' ⟨o2, o3, o4, o5, rfl⟩ s' h'
          refine ⟨acc', o2, o3, o4, o5, rfl, s', ?_⟩
          rw [codeBody_S, htake, codeStmts_snoc]
          rw [List.append_assoc, List.length_append] at h'
          exact h'
        generalize hes : es ++ codeStmts (codeStmt (codeBody g)) es.length (ss.take i) = es1 at h1 hgoal
        have hes1 : (es1.length : Int) + 2 * m ≤ 10000 := by rw [← hes, List.length_append]; omega
        have hal1 := h1.len
        -- word, *parts = statement
        obtain ⟨z, ps, rfl⟩ : ∃ z ps, s0 = .tuple (.str z :: ps) := by
          rcases stmt_cases hm with ⟨z, ps, e, _⟩ | ⟨c, b, _, e, _⟩ | ⟨c, b1, b2, _, _, e, _⟩
          · exact ⟨z, ps, e⟩
          · exact ⟨_, _, e⟩
          · exact ⟨_, _, e⟩
        obtain ⟨bs, ys, rfl, hys, hdy⟩ := dpT hxs0
        cases hdy with
        | @cons y0 yr _ _ hy0 hyr =>
          cases dpS hy0
          have hyrl := dpAll_len hyr
          refine ⟨_, rfl, bs, _, rfl, ex_t hid_same hys, by show 2 ≤ (yr.length + 1) + 1; omega, by decide, fun q hq => ?_⟩
          have e1 : List.take (yr.length + 1 + 1 - 2) (List.drop 1 (V.str z :: yr)) = yr := by
            rw [List.drop_succ_cons, List.drop_zero, List.take_of_length_le (by omega)]
          have e2 : List.drop (yr.length + 1 + 1 - 2) (List.drop 1 (V.str z :: yr)) = [] := by
            rw [List.drop_succ_cons, List.drop_zero, List.drop_of_length_le (by omega)]
          show gCons (gName 3) (gCons (gName 4) gNil) ([V.str z] ++ [V.ref q] ++ List.drop (yr.length + 1 + 1 - 2) (List.drop 1 (V.str z :: yr))) _ (upd H1 q (.lst (List.take (yr.length + 1 + 1 - 2) (List.drop 1 (V.str z :: yr))))) _
          rw [e1, e2]
          refine ⟨_, _, rfl, _, _, rfl, rfl, ?_⟩
          have e3 : Ex H1 (upd H1 q (.lst yr)) := Ex.new hq
          have hqp : q ≠ p := fun c => by rw [c, h1.at_] at hq; cases hq
          have hQ : SqL K (hid p (upd H1 q (.lst yr))) q yr := sq_of (hid_at hqp upd_same)
          have h2 := h1.ex e3
          have s2 := s1.trans (hid_mono e3)
          have hyr2 := dpAll_mono (hid_mono (p := p) e3) hyr
          have hx2 := dp_mono (hid_mono (p := p) e3) hxs0
          generalize upd H1 q (.lst yr) = H2 at hQ h2 s2 hyr2 hx2
          refine s_if (b := isBlk z) (et_is (et_test (ev_op (ev_var rfl) ev_c rv_inTab)) (blk_is K z)) (fun hz H3 e4 => ?_) fun hz H3 e4 => ?_
          · have h3 := h2.ex e4
            have s3 := s2.trans (hid_mono e4)
            have hQ3 := ex_l (hid_mono (p := p) e4) hQ
            have hyr3 := dpAll_mono (hid_mono (p := p) e4) hyr2
            rcases stmt_cases hm with ⟨z', ps', e, hz', _⟩ | ⟨c, b, k1, e, hc, hb1, rfl⟩ | ⟨c, b1, b2, k1, k2, e, hc, hb1, hb2, rfl⟩
            · injection e with e; injection e with e _; injection e with e
              rw [← e, hz] at hz'; cases hz'
            · injection e with e; injection e with e e'; injection e with e
              subst e e'
              obtain ⟨vc, vb, rfl⟩ := len2 hyrl
              obtain ⟨_, _, e, hvc, hvb⟩ := dp2 hyr3
              cases e
              refine q_asg (ev_op ev_c (ev_var rfl) (rv_ixTab (blk_while K))) fun H4 e5 => ?_
              refine ⟨He.ga K "place_while", spPW K g, rfl, ⟨g, rfl, .inr ⟨rfl, rfl⟩⟩, ?_⟩
              refine ea_cons (σ := _) (ev_var rfl) (ea_cons (ev_var rfl) ea_nil) H4 (Ex.refl _) _ fun H5 e6 => ?_
              have e46 := e5.trans e6
              refine ⟨p, q, acc1, es1, vc, vb, c, b, kind, k1, rfl, h3.ex e46, ex_l (hid_mono e46) hQ3, dp_mono (hid_mono e46) hvc, dp_mono (hid_mono e46) hvb, hsmS.tupI.2 b (by simp), hb1, by omega, fun acc' H' s' h' => ?_⟩
              refine hgoal acc' H' _ ⟨_, _, _, _, rfl⟩ (s3.trans ((hid_mono e46).trans s')) ?_
              rw [codeStmt_while]; exact h'
            · injection e with e; injection e with e e'; injection e with e
              subst e e'
              obtain ⟨vc, v1, v2, rfl⟩ := len3 hyrl
              obtain ⟨_, _, _, e, hvc, hv1, hv2⟩ := dp3 hyr3
              cases e
              refine q_asg (ev_op ev_c (ev_var rfl) (rv_ixTab (blk_if K))) fun H4 e5 => ?_
              refine ⟨He.ga K "place_if", spPI K g, rfl, ⟨g, rfl, .inl ⟨rfl, rfl⟩⟩, ?_⟩
              refine ea_cons (σ := _) (ev_var rfl) (ea_cons (ev_var rfl) ea_nil) H4 (Ex.refl _) _ fun H5 e6 => ?_
              have e46 := e5.trans e6
              refine ⟨p, q, acc1, es1, vc, v1, v2, c, b1, b2, kind, k1, k2, rfl, h3.ex e46, ex_l (hid_mono e46) hQ3, dp_mono (hid_mono e46) hvc, dp_mono (hid_mono e46) hv1, dp_mono (hid_mono e46) hv2, hsmS.tupI.2 b1 (by simp), hsmS.tupI.2 b2 (by simp), hb1, hb2, by omega, fun acc' H' s' h' => ?_⟩
              refine hgoal acc' H' _ ⟨_, _, _, _, rfl⟩ (s3.trans ((hid_mono e46).trans s')) ?_
              rw [codeStmt_if]; exact h'
          · have h3 := h2.ex e4
            refine s_app h3.at_ (ev_var rfl) (ev_var rfl) (by omega) fun H4 e5 => ?_
            have h4 := (h3.ex e5).push (dp_mono (hid_mono (e4.trans e5)) hx2)
            refine hgoal (acc1 ++ [V.ref bs]) _ _ ⟨_, _, _, _, rfl⟩ (s2.trans ((hid_mono (e4.trans e5)).trans hid_upd)) ?_
            rw [codeStmt_one hz]
            exact h4
    · rintro σ' H' ⟨acc', o2, o3, o4, o5, rfl, s1, h1⟩
      refine kk acc' H' s1 ?_
      rw [hlx, List.take_length] at h1
      exact h1
theorem ok_place_body (T : Txt w K mg) : ∀ f : Nat, Def P w K mg base CX0 (1 + 2 * f) "place_body" ["code", "body"] (spPB K f)
  | 0 => ok_place_body1 T 0 0 (by rintro a sp ⟨n, h, _⟩; cases h)
  | f + 1 => (ok_place_body1 T (f + 1) (1 + 2 * f + 1) (by
      rintro a sp ⟨n, h, h2⟩
      cases h
      rcases h2 with ⟨rfl, rfl⟩ | ⟨rfl, rfl⟩
      · exact (ok_place_if T f (1 + 2 * f) (ok_place_body T f)).held T.g_place_if
      · exact (ok_place_while T f (1 + 2 * f) (ok_place_body T f)).held T.g_place_while)).mono (by omega)
/-- what assemble makes of a program -/
def asm : PyData → List PyData
  | .tuple [_, b] => codeBody 4 0 b
  | _ => []
def spAsm (K : PySem.W.Frag) : Sp := fun vs H Q E => ∃ v d, vs = [v] ∧ Dp K H v d ∧ Sm d ∧ (isProg d = true → ∀ p acc H', H p = none → Same H H' → At K p H' acc (asm d) → Q (.ref p) H') ∧ (isProg d = false → ∀ H', Same H H' → E (.ref (He.ga K "BadProgram")) none H')
theorem progK_none (d : PyData) : isProgK none d = isProg d := by unfold isProgK; exact Bool.and_true _
theorem ok_assemble (T : Txt w K mg) : Def P w K mg base (L2.CX P w) 19 "assemble" ["program"] (spAsm K) := by
  have D_check_program := ok_check_program (P := P) (base := base) T
  have D_place_body := ok_place_body (P := P) (base := base) T 4
  refine mkDef T.F_assemble T.g_assemble sc_assemble (fun _ _ _ _ _ _ us hl => match us, hl with | [_], _ => rfl) (fun vs H Q E h => ?_) (fun cdv A outer s H vs Q E hr h => ?_)
  · obtain ⟨v, d, rfl, _⟩ := h; rfl
  · obtain ⟨v, d, rfl, hd, hs, kq, ke⟩ := h
    refine ⟨_, (pss_cons (ps_expr (pe_callV D_check_program (hr.mono (by omega)) rfl (passes_call (takes_of rfl rfl rfl rfl) (fun _ _ _ _ h => h)) (pa_cons (pv 0) pa_nil)))
      (pss_cons (ps_set (i := 1) sc_assemble.nd rfl (Or.inl rfl) (pe_lst pa_nil))
      (pss_cons (ps_expr (pe_callD D_place_body (hr.mono (by omega)) rfl pass0 (pa_cons (pv 1) (pa_cons (pe_ix ix_tup (pv 0) pe_int (fun _ _ => rfl)) pa_nil))))
      (pss_one (ps_ret (pv 1)))))), ?_⟩
    refine c_call (ea_cons (ev_var rfl) ea_nil) fun H1 e1 => ?_
    refine ⟨v, d, none, rfl, dp_mono e1 hd, hs, fun hp H2 e2 => ?_, fun hp H2 e2 => ke (by rw [← progK_none]; exact hp) H2 (e1.trans e2)⟩
    rw [progK_none] at hp
    have kq := kq hp
    obtain ⟨z, body, n, rfl, hkz, hc, hn⟩ := isProg_inv hp
    obtain ⟨a, xs, rfl, hx, hds⟩ := dpT hd
    obtain ⟨x0, x1, rfl⟩ := len2 (dpAll_len hds)
    obtain ⟨_, _, e, h0, h1⟩ := dp2 hds
    cases e
    have e12 := e1.trans e2
    refine q_asgL (el_lst ea_nil (by show 0 ≤ 100000; decide)) fun p H3 hp3 e3 hp3' => ?_
    have hpH : H p = none := fresh_back e12 hp3
    have hA : At K p H3 [] [] := ⟨hp3', .nil⟩
    have e13 := e12.trans e3
    refine c_call (ea_cons (ev_var rfl) (ea_cons (ev_op (ev_var rfl) ev_c (rv_ixT (ex_t e13 hx) at1)) ea_nil)) fun H4 e4 => ?_
    have e14 := e13.trans e4
    have hidS : Same H (hid p H4) := fun b o hb => hid_at (fun q => by rw [q, hpH] at hb; cases hb) (e14 b o hb)
    have hn0 := body_nn hc
    refine ⟨p, [], [], x1, body, z, n, rfl, hA.ex e4, dp_mono hidS h1, hs.tupI.2 body (by simp), hc, by show (0 : Int) + 2 * n ≤ 10000; omega, fun acc' H5 s5 h5 => ?_⟩
    refine s_ret (ev_var rfl) fun H6 e6 => kq p acc' H6 hpH ((hidS.trans s5).trans (hid_same.trans e6)) (h5.ex e6)
end

end Nt

namespace Nt
open PySem PySem.Spec PyProof.Rows L2 Evl
/-! ### the law's own instructions -/
structure Fr (p : Addr) (H : Hp) (q : Addr) (H' : Hp) : Prop where
  f : q = p ∨ H q = none
  s : Same (hid p H) H'
section
variable {p q r p1 q1 : Addr} {H H1 H2 H' : Hp}
theorem Fr.ne (h : Fr p H q H') {a : Addr} {o : HO} (ha : hid p H a = some o) : a ≠ q := fun z => by
  obtain ⟨h1, h2⟩ := hid_out ha
  rcases h.f with e | e
  · exact h1 (z.trans e)
  · rw [z, e] at h2; cases h2
theorem Fr.hid (h : Fr p H q H') : Same (Nt.hid p H) (Nt.hid q H') := fun a o ha => hid_at (h.ne ha) (h.s a o ha)
theorem Fr.ex (h : Fr p H q H') (e : Same H' H1) : Fr p H q H1 := ⟨h.f, h.s.trans e⟩
theorem Fr.upd {ob : HO} (h : Fr p H q H') : Fr p H q (L2.upd H' q ob) := ⟨h.f, fun a o ha => by rw [upd_ne (h.ne ha)]; exact h.s a o ha⟩
theorem Fr.new (h : Fr p H q H') (hr : H' r = none) (e : Same H' H1) : Fr p H r H1 := by
  refine ⟨?_, h.s.trans e⟩
  cases c : H r with
  | none => exact .inr rfl
  | some o =>
    by_cases z : r = p
    · exact .inl z
    · have := h.s r o (hid_at z c)
      rw [hr] at this; cases this
theorem Fr.call (h : Fr p H p1 H2) (hq : q1 = p1 ∨ H2 q1 = none) (e : Same (Nt.hid p1 H2) H') : Fr p H q1 H' := by
  rcases hq with z | z
  · rw [z]; exact ⟨h.f, h.hid.trans e⟩
  · exact ⟨(h.new z (Same.refl _)).f, h.hid.trans e⟩
end
section
variable {K : PySem.W.Frag} {σ : L2.St} {H : Hp} {ta tb te t1 t2 : TE} {D : Ends} {tz : TS} {sp : Sp} {dvs : List V} {E : XK} {Q : VK} {x : V}
theorem el_cat {l : Addr} {xs ys : List V} (hl : H l = some (.lst xs)) (ha : Ev ta σ H (.ref l)) (hb : EvL tb σ H ys) (hz : xs.length + ys.length ≤ 100000) : EvL (tOp rCat ta tb) σ H (xs ++ ys) := fun H1 e Q q =>
  ha H1 e _ fun H2 e2 => hb H2 (e.trans e2) _ fun p H3 hp e3 hp3 => ⟨l, p, xs, ys, rfl, rfl, (e2.trans e3) l _ (e l _ hl), hp3, sz_of hz, fun p' hp' => q p' _ (fresh_back (e2.trans e3) hp') ((e2.trans e3).trans (Ex.new hp')) upd_same⟩
theorem c_callXL {ys : List V} (h1 : Ev t1 σ H x) (h2 : EvL t2 σ H ys) (k : ∀ p H1, H p = none → Ex H H1 → H1 p = some (.lst ys) → sp ([x, .ref p] ++ dvs) H1 Q E) : tCall sp dvs E (tCons t1 (tCons t2 tNil)) σ H Q :=
  h1 H (Ex.refl _) _ fun H1 e1 => h2 H1 e1 _ fun p H2 hp e2 hp2 => k p H2 (fresh_back e1 hp) (e1.trans e2) hp2
end
theorem hid_new {q r : Addr} {H H' : Hp} (hr : H r = none) (e : Same H H') : Same (hid q H) (hid r H') := fun a o ha => hid_at (ne_of_none (hid_same a o ha) hr) (e a o (hid_same a o ha))
theorem At.move {K : PySem.W.Frag} {q r : Addr} {H H' : Hp} {acc : List V} {es : List PyData} (h : At K q H acc es) (hr : H r = none) (e : Same H H') : DpAll K (hid r H') acc es := dpAll_mono (hid_new hr e) h.dp
theorem ev_opU {σ : L2.St} {H : Hp} {ta tb : TE} {r : R2} {x z : V} {ys : List V} (ha : Ev ta σ H x) (hb : EvU tb σ H ys) (k : ∀ p H1, Ex H H1 → H1 p = some (.tup ys) → RV r x (.ref p) H1 z) : Ev (tOp r ta tb) σ H z := fun H1 e Q q =>
  ha H1 e _ fun H2 e2 => hb H2 (e.trans e2) _ fun p H3 hp e3 hp3 => k p H3 (e.trans (e2.trans e3)) hp3 H3 (Ex.refl _) Q fun H4 e4 => q H4 ((e2.trans e3).trans e4)
/-- code + [("..", ..)] : a new list -/
theorem cat_newT {K : PySem.W.Frag} {σ : L2.St} {q : Addr} {H : Hp} {acc : List V} {es : List PyData} {ta : TA} {ys : List V} {ds : List PyData} {Q : VK} (h : At K q H acc es) (ht : EvA ta σ H ys) (hy : ys.length ≤ 100000) (hz : acc.length < 100000) (hd : DpAll K (hid q H) ys ds)
    (k : ∀ (l : Addr) (t : Addr) (H' : Hp), H l = none → Same H H' → At K l H' (acc ++ [.ref t]) (es ++ [.tuple ds]) → Q (.ref l) H') : tLst (tCons (tTup ta) tNil) σ H (fun y H2 => rCat (.ref q) y H2 Q) := by
  show tTup ta σ H (fun v H1 => [v].length ≤ sizeLine ∧ ∀ a, H1 a = none → rCat (V.ref q) (V.ref a) (upd H1 a (.lst [v])) Q)
  refine eu_tup ht hy H (Ex.refl _) _ fun t H1 ht1 e1 ht1' => ?_
  refine ⟨sz_of (by show 1 ≤ 100000; decide), fun l hl => ?_⟩
  have hq1 := e1 _ _ h.at_
  have e2 : Same H1 (upd H1 l (.lst [.ref t])) := Same.new hl
  refine ⟨q, l, acc, [.ref t], rfl, rfl, e2 _ _ hq1, upd_same, sz_of (by show acc.length + 1 ≤ 100000; omega), fun m hm => ?_⟩
  have e3 : Same (upd H1 l (.lst [.ref t])) (upd (upd H1 l (.lst [.ref t])) m (.lst (acc ++ [.ref t]))) := Same.new hm
  have e13 := e1.trans (e2.trans e3)
  have hm0 : H m = none := fresh_back (e1.trans e2) hm
  refine k m t _ hm0 e13 ⟨upd_same, dpAll_append (h.move hm0 e13) (.cons ?_ .nil)⟩
  have ht3 := (e2.trans e3) _ _ ht1'
  have hne : t ≠ m := ne_of_none (e2 _ _ ht1') hm
  exact .tup (st_of (hid_at hne ht3)) (dpAll_mono (hid_new hm0 e13) hd)
theorem at3 {x y z u : V} {xs : List V} : atI (x :: y :: z :: u :: xs) 3 = some u := atI_nat (j := 3) rfl
def spLC (K : PySem.W.Frag) (f : Nat) : Sp := fun vs H Q _ => ∃ (v : V) (p : Addr) (acc : List V) (es : List PyData) (b : PyData) (kind : Str) (n : Int), vs = [v, .ref p] ∧ At K p H acc es ∧ Dp K (hid p H) v b ∧ cntBody kind f b = some n ∧ n ≤ 1000 ∧ f ≤ 10 ∧ (es.length : Int) + 2 * n ≤ 10000 ∧
  ∀ q acc' H', Fr p H q H' → At K q H' acc' (es ++ codeBody f es.length b) → Q (.ref q) H'
section
variable {P : Program} {w : World} {K : PySem.W.Frag} {mg : Str → Option Value} {base : Heap}
theorem eqv_tup_nil (ss : List PyData) : PyData.eqv (.tuple ss) (.tuple []) = isNil (.tuple ss) := by
  cases ss with
  | nil => rw [PyData.eqv, PyData.eqvAll]; rfl
  | cons a l => rw [PyData.eqv, PyData.eqvAll]; rfl
theorem ok__law_code1 (T : Txt w K mg) (f k : Nat) (sp : Sp) (hsp : ∀ g, f = g + 1 → sp = spLC K g) (D__law_code : Def P w K mg base CX0 k "_law_code" ["_law_body_here", "_law_code_here"] sp) : Def P w K mg base CX0 (k + 1) "_law_code" ["_law_body_here", "_law_code_here"] (spLC K f) := by
  refine mkDef T.F__law_code T.g__law_code sc__law_code (fun _ _ _ _ _ _ us hl => match us, hl with | [_, _], _ => rfl) (fun vs H Q E h => ?_) (fun cdv A outer s H vs Q E hr h => ?_)
  · obtain ⟨v, p, acc, es, b, kind, n, rfl, _⟩ := h; rfl
  · obtain ⟨v, p, acc, es, b, kind, n, rfl, h0, hb, hn, hn1, hf, hsz, kk⟩ := h
    obtain ⟨ss, rfl⟩ := body_tup hn
    obtain ⟨a, xs, rfl, hx, hds⟩ := dpT hb
    have hlx := dpAll_len hds
    have hn0 := body_nn hn
    refine ⟨_, (PSs.nox (pss_cons (ps_for PassesOwn.never rfl (pi_tup (pv 0)) (pg_name (i := 2) sc__law_code.nd rfl (Or.inl rfl)) (pss_cons (ps_set (i := 3) sc__law_code.nd rfl (Or.inl rfl) (pe_callB call_len_seq (by rfl) T.m_len boot_len (pa_cons (pv 1) pa_nil)))
      (pss_one (ps_if (pt_cmpR op_eq (pe_ix ix_tup (pv 2) pe_int (fun _ _ => rfl)) pe_str (nomark _)) (pss_cons (ps_set (i := 1) sc__law_code.nd rfl (Or.inl rfl) (pe_op op_cat (pe_callD D__law_code (hr.mono (by omega)) rfl pass0 (pa_cons (pe_ix ix_tup (pv 2) pe_int (fun _ _ => rfl)) (pa_cons (pe_op op_cat (pv 1) (pe_lst (pa_cons pe_non pa_nil))) pa_nil))) (pe_lst (pa_cons (pe_tup (pa_cons pe_str (pa_cons (pv 3) pa_nil))) pa_nil))))
      (pss_one (ps_asg (pe_tup (pa_cons pe_str (pa_cons (pe_ix ix_tup (pv 2) pe_int (fun _ _ => rfl)) (pa_cons (pe_callB call_len_seq (by rfl) T.m_len boot_len (pa_cons (pv 1) pa_nil)) pa_nil)))) (pg_sub (pv 1) (pv 3) set_list)))) (pss_one (ps_if (pt_cmpR op_eq (pe_ix ix_tup (pv 2) pe_int (fun _ _ => rfl)) pe_str (nomark _)) (pss_cons (ps_set (i := 1) sc__law_code.nd rfl (Or.inl rfl) (pe_callD D__law_code (hr.mono (by omega)) rfl pass0 (pa_cons (pe_ix ix_tup (pv 2) pe_int (fun _ _ => rfl)) (pa_cons (pe_op op_cat (pv 1) (pe_lst (pa_cons pe_non pa_nil))) pa_nil))))
      (pss_one (ps_if (pt_cmpR (op_neP hr.units) (pe_ix ix_tup (pv 2) pe_int (fun _ _ => rfl)) (pe_tup pa_nil) (nomark _)) (pss_cons (ps_set (i := 4) sc__law_code.nd rfl (Or.inl rfl) (pe_callB call_len_seq (by rfl) T.m_len boot_len (pa_cons (pv 1) pa_nil)))
      (pss_cons (ps_set (i := 1) sc__law_code.nd rfl (Or.inl rfl) (pe_callD D__law_code (hr.mono (by omega)) rfl pass0 (pa_cons (pe_ix ix_tup (pv 2) pe_int (fun _ _ => rfl)) (pa_cons (pe_op op_cat (pv 1) (pe_lst (pa_cons pe_non pa_nil))) pa_nil))))
      (pss_cons (ps_asg (pe_tup (pa_cons pe_str (pa_cons (pe_callB call_len_seq (by rfl) T.m_len boot_len (pa_cons (pv 1) pa_nil)) pa_nil))) (pg_sub (pv 1) (pv 4) set_list))
      (pss_one (ps_asg (pe_tup (pa_cons pe_str (pa_cons (pe_ix ix_tup (pv 2) pe_int (fun _ _ => rfl)) (pa_cons (pe_op op_add (pv 4) pe_int) pa_nil)))) (pg_sub (pv 1) (pv 3) set_list)))))) (pss_one (ps_asg (pe_tup (pa_cons pe_str (pa_cons (pe_ix ix_tup (pv 2) pe_int (fun _ _ => rfl)) (pa_cons (pe_callB call_len_seq (by rfl) T.m_len boot_len (pa_cons (pv 1) pa_nil)) pa_nil)))) (pg_sub (pv 1) (pv 3) set_list)))))) (pss_one (ps_set (i := 1) sc__law_code.nd rfl (Or.inl rfl) (pe_op op_cat (pv 1) (pe_lst (pa_cons (pv 2) pa_nil)))))))))))
      (pss_one (ps_ret (pv 1))))), ?_⟩
    refine q_forT (ev_var rfl) (ex_t hid_same hx) (fun i σ' H' => ∃ (q : Addr) (acc' : List V) (o2 o3 o4 : Option V), σ' = [some (.ref a), some (.ref q), o2, o3, o4] ∧ Fr p H q H' ∧ At K q H' acc' (es ++ codeBody f es.length (.tuple (ss.take i)))) (fun H1 e1 => ?_) ?_ ?_ ?_
    · refine ⟨p, acc, none, none, none, rfl, ⟨.inl rfl, hid_same.trans e1⟩, ?_⟩
      rw [List.take_zero, codeBody_nil, List.append_nil]
      exact h0.ex e1
    · rintro i σ' H' hi ⟨q, acc', o2, o3, o4, rfl, r1, h1⟩
      exact ex_t r1.s hx
    · rintro i x σ' H1 hi ⟨q, acc1, o2, o3, o4, rfl, r1, h1⟩
      obtain ⟨s0, hs0, hxs0⟩ := dpAll_get hds hi
      cases f with
      | zero =>
        cases ss with
        | nil => cases hs0
        | cons y ys => cases hn
      | succ g =>
        cases hsp g rfl
        have hsd := (sd_body _ _ _ hn).2 hn1
        rw [cntBody_S] at hn
        rw [codeBody_S] at h1
        have hnn : ∀ a, some a ∈ ss.map (cntStmt kind (cntBody kind g)) → 0 ≤ a := fun a ha => by
          obtain ⟨y, _, e⟩ := List.mem_map.mp ha
          have := stmt_pos e
          omega
        obtain ⟨sa, m, r, hta, hm, hsum, hr0⟩ := sumO_at hn hnn (i := i) (o := cntStmt kind (cntBody kind g) s0) (by rw [List.getElem?_map, hs0]; rfl)
        rw [← List.map_take] at hta
        have hcl1 := code_len (g + 1) (.tuple (ss.take i)) sa es.length (kind := kind) (by rw [cntBody_S]; exact hta)
        have hta0 : 0 ≤ sa := body_nn (kind := kind) (f := g + 1) (d := .tuple (ss.take i)) (by rw [cntBody_S]; exact hta)
        rw [codeBody_S] at hcl1
        have hm1 := stmt_pos hm
        have htake : ss.take (i + 1) = ss.take i ++ [s0] := by
          have hlt : i < ss.length := by
            rcases Nat.lt_or_ge i ss.length with q | q
            · exact q
            · rw [List.getElem?_eq_none q] at hs0; cases hs0
          rw [List.getElem?_eq_getElem hlt] at hs0
          cases hs0
          exact (List.take_append_getElem hlt).symm
        have hgoal : ∀ q acc' H' σ', (∃ o2 o3 o4 : Option V, σ' = [some (.ref a), some (.ref q), o2, o3, o4]) → Fr p H q H' → At K q H' acc' (es ++ codeStmts (codeStmt (codeBody g)) es.length (ss.take i) ++ codeStmt (codeBody g) (es ++ codeStmts (codeStmt (codeBody g)) es.length (ss.take i)).length s0) → ∃ (q : Addr) (acc' : List V) (o2 o3 o4 : Option V), σ' = [some (.ref a), some (.ref q), o2, o3, o4] ∧ Fr p H q H' ∧ At K q H' acc' (es ++ codeBody (g + 1) es.length (.tuple (ss.take (i + 1)))) := by
          rintro q acc' H' σ' ⟨o2, o3, o4, rfl⟩ s' h'
          refine ⟨q, acc', o2, o3, o4, rfl, s', ?_⟩
          rw [codeBody_S, htake, codeStmts_snoc]
          rw [List.append_assoc, List.length_append] at h'
          exact h'
        generalize hes : es ++ codeStmts (codeStmt (codeBody g)) es.length (ss.take i) = es1 at h1 hgoal
        have hes1 : (es1.length : Int) + 2 * m ≤ 10000 := by rw [← hes, List.length_append]; omega
        have hmn : m ≤ 1000 := by omega
        have hal1 := h1.len
        obtain ⟨z, ps, rfl⟩ : ∃ z ps, s0 = .tuple (.str z :: ps) := by
          rcases stmt_cases hm with ⟨z, ps, e, _⟩ | ⟨c, b, _, e, _⟩ | ⟨c, b1, b2, _, _, e, _⟩
          · exact ⟨z, ps, e⟩
          · exact ⟨_, _, e⟩
          · exact ⟨_, _, e⟩
        obtain ⟨bs, ys, rfl, hys, hdy⟩ := dpT hxs0
        cases hdy with
        | @cons y0 yr _ _ hy0 hyr =>
          cases dpS hy0
          have hyrl := dpAll_len hyr
          show tSeq _ _ _ [some (.ref a), some (.ref q), some (.ref bs), o3, o4] H1
          refine q_asg (ev_cb (ea_cons (ev_var rfl) ea_nil) (rc_lenL (sq_of h1.at_))) fun H2 e2 => ?_
          have h2 := h1.ex e2
          have r2 := r1.ex e2
          have ix0 : ∀ H' w, Fr p H w H' → ∀ u, Ev (tOp rEq (tOp (rIxT K) (tVar 2) (tC (.int 0))) (tC (.str u))) [some (.ref a), some (.ref q), some (.ref bs), some (.int (acc1.length : Int)), o4] H' (.bl (decide (z = u))) := fun H' w r' u =>
            ev_is (ev_op (ev_op (ev_var rfl) ev_c (rv_ixT (ex_t r'.s hys) at0)) ev_c (rv_eq rfl)) (congrArg V.bl (dec_strV z u))
          refine s_if (b := decide (z = "while")) (et_test (ix0 H2 q r2 "while")) (fun hz H3 e3 => ?_) fun hz H3 e3 => ?_
          · have hz : z = "while" := of_decide_eq_true hz
            subst hz
            have h3 := h2.ex e3
            have r3 := r2.ex e3
            rcases stmt_cases hm with ⟨z', ps', e, hz', _⟩ | ⟨c, b, k1, e, hc, hb1, rfl⟩ | ⟨c, b1, b2, k1, k2, e, hc, hb1, hb2, rfl⟩
            · injection e with e; injection e with e _; injection e with e
              rw [← e] at hz'; exact absurd hz' (by decide +kernel)
            · injection e with e; injection e with _ e'
              subst e'
              obtain ⟨vc, vb, rfl⟩ := len2 hyrl
              obtain ⟨_, _, e, hvc, hvb⟩ := dp2 hyr
              cases e
              have hk0 := body_nn hb1
              have hclb := code_len g b k1 (es1.length + 1) hb1
              refine c_callXL (σ := [some (.ref a), some (.ref q), some (.ref bs), some (.int (acc1.length : Int)), o4]) (ev_op (ev_var rfl) ev_c (rv_ixT (ex_t r3.s hys) at2)) (el_cat h3.at_ (ev_var rfl) (el_lst (ea_cons ev_c ea_nil) (by show 1 ≤ 100000; decide)) (by show acc1.length + 1 ≤ 100000; omega)) fun p4 H4 hp4 e4 hp4' => ?_
              have r4 := r3.new hp4 e4
              have h4 : At K p4 H4 (acc1 ++ [V.non]) (es1 ++ [PyData.none]) := ⟨hp4', dpAll_append (h3.move hp4 e4) (.cons .non .nil)⟩
              refine ⟨vb, p4, _, _, b, kind, k1, rfl, h4, dp_mono r4.hid hvb, hb1, by omega, by omega, by rw [List.length_append, List.length_singleton]; omega, fun q5 acc5 H5 r5 h5 => ?_⟩
              have el : (es1 ++ [PyData.none]).length = es1.length + 1 := by rw [List.length_append, List.length_singleton]
              rw [el] at h5
              generalize hkb : codeBody g (es1.length + 1) b = kb at *
              have hal5 := h5.len
              rw [List.length_append, el] at hal5
              have r5 := r4.call r5.f r5.s
              refine cat_newT (ds := [.str "jump", .int (acc1.length : Int)]) h5 (ea_cons ev_c (ea_cons (ev_var rfl) ea_nil)) (by show 2 ≤ 100000; decide) (by omega) (.cons (.str _) (.cons (.int _) .nil)) fun q6 t6 H6 hq6 e6 h6 => ?_
              have r6 := r5.new hq6 e6
              refine s_setU (σ := [some (.ref a), some (.ref q6), some (.ref bs), some (.int (acc1.length : Int)), o4]) (j := acc1.length) h6.at_ (eu_tup (ea_cons ev_c (ea_cons (ev_op (ev_var rfl) ev_c (rv_ixT (ex_t r6.s hys) at1)) (ea_cons (ev_cb (ea_cons (ev_var rfl) ea_nil) (rc_lenL (sq_of h6.at_))) ea_nil))) (by show 3 ≤ 100000; decide)) (ev_var rfl) (ev_var rfl) (by rw [List.length_append, hal5]; omega) fun p7 H7 hp7 e7 hp7' => ?_
              have r7 := r6.ex e7
              have h7 := (h6.ex e7).set acc1.length (h6.new (ds := [.str "test", c, .int ((acc5 ++ [V.ref t6]).length : Int)]) hp7 e7 hp7' (.cons (.str _) (.cons (dp_mono r7.hid hvc) (.cons (.int _) .nil))))
              refine hgoal q6 ((acc5 ++ [V.ref t6]).set acc1.length (V.ref p7)) _ _ ⟨_, _, _, rfl⟩ r7.upd ?_
              have e9 : ((es1 ++ [PyData.none] ++ kb ++ [PyData.tuple [.str "jump", .int (acc1.length : Int)]]).set acc1.length (.tuple [.str "test", c, .int ((acc5 ++ [V.ref t6]).length : Int)])) = es1 ++ codeWhile (codeBody g) es1.length c b := by
                have e1 : es1 ++ [PyData.none] ++ kb ++ [PyData.tuple [.str "jump", .int (acc1.length : Int)]] = es1 ++ PyData.none :: (kb ++ [PyData.tuple [.str "jump", .int (acc1.length : Int)]]) := by
                  rw [List.append_assoc, List.append_assoc, List.singleton_append]
                rw [e1, hal1, set_mid]
                unfold codeWhile tstD jmpD
                have e2 : ((acc5 ++ [V.ref t6]).length : Int) = ((es1.length + kb.length + 2 : Nat) : Int) := by rw [List.length_append, hal5, List.length_singleton]; omega
                rw [e2, hkb]
              rw [codeStmt_while, ← e9]
              exact h7
            · injection e with e; injection e with e _; injection e with e
              exact absurd e (by decide +kernel)
          · have hz : ¬ z = "while" := of_decide_eq_false hz
            have h3 := h2.ex e3
            have r3 := r2.ex e3
            refine s_if (b := decide (z = "if")) (et_test (ix0 H3 q r3 "if")) (fun hzi H4 e4 => ?_) fun hzi H4 e4 => ?_
            · have hzi : z = "if" := of_decide_eq_true hzi
              subst hzi
              have h4 := h3.ex e4
              have r4 := r3.ex e4
              rcases stmt_cases hm with ⟨z', ps', e, hz', _⟩ | ⟨c, b, k1, e, hc, hb1, rfl⟩ | ⟨c, b1, b2, k1, k2, e, hc, hb1, hb2, rfl⟩
              · injection e with e; injection e with e _; injection e with e
                rw [← e] at hz'; exact absurd hz' (by decide +kernel)
              · injection e with e; injection e with e _; injection e with e
                exact absurd e (by decide +kernel)
              · injection e with e; injection e with _ e'
                subst e'
                obtain ⟨vc, v1, v2, rfl⟩ := len3 hyrl
                obtain ⟨_, _, _, e, hvc, hv1, hv2⟩ := dp3 hyr
                cases e
                have hk10 := body_nn hb1
                have hk20 := body_nn hb2
                have hclb1 := code_len g b1 k1 (es1.length + 1) hb1
                have hclb2 := code_len g b2 k2 (es1.length + (codeBody g (es1.length + 1) b1).length + 2) hb2
                obtain ⟨s2, hs2, hnil⟩ := nil_cases hb2
                have hpn : Pn 30 b2 := by
                  obtain ⟨k', e1, _, ha1⟩ := hsd.tupI
                  obtain ⟨k'', e2, _, ha2⟩ := (ha1 _ (List.mem_of_getElem? hs0)).tupI
                  exact (ha2 b2 (by simp)).pn.mono (by omega)
                refine c_callXL (σ := [some (.ref a), some (.ref q), some (.ref bs), some (.int (acc1.length : Int)), o4]) (ev_op (ev_var rfl) ev_c (rv_ixT (ex_t r4.s hys) at2)) (el_cat h4.at_ (ev_var rfl) (el_lst (ea_cons ev_c ea_nil) (by show 1 ≤ 100000; decide)) (by show acc1.length + 1 ≤ 100000; omega)) fun p5 H5 hp5 e5 hp5' => ?_
                have r5 := r4.new hp5 e5
                have h5 : At K p5 H5 (acc1 ++ [V.non]) (es1 ++ [PyData.none]) := ⟨hp5', dpAll_append (h4.move hp5 e5) (.cons .non .nil)⟩
                refine ⟨v1, p5, _, _, b1, kind, k1, rfl, h5, dp_mono r5.hid hv1, hb1, by omega, by omega, by rw [List.length_append, List.length_singleton]; omega, fun q6 acc6 H6 r6 h6 => ?_⟩
                have el : (es1 ++ [PyData.none]).length = es1.length + 1 := by rw [List.length_append, List.length_singleton]
                rw [el] at h6
                generalize hkb : codeBody g (es1.length + 1) b1 = kb at *
                have hal6 := h6.len
                rw [List.length_append, el] at hal6
                have r6 := r5.call r6.f r6.s
                have e3x : Ev (tOp (rIxT K) (tVar 2) (tC (.int 3))) [some (.ref a), some (.ref q6), some (.ref bs), some (.int (acc1.length : Int)), o4] H6 v2 := ev_op (ev_var rfl) ev_c (rv_ixT (ex_t r6.s hys) at3)
                refine s_if (σ := [some (.ref a), some (.ref q6), some (.ref bs), some (.int (acc1.length : Int)), o4]) (b := !isNil b2) (et_test (ev_opU e3x (eu_tup ea_nil (by show 0 ≤ 100000; decide)) fun t H7 e7 ht H8 e8 Q8 q8 => ⟨b2, .tuple [], dp_mono ((r6.s.trans e7).trans e8) hv2, .tup (st_of (e8 _ _ ht)) .nil, hpn.p, by rw [PyData.plain, PyData.plainAll], by have := hpn.d; omega, by rw [hs2, eqv_tup_nil, ← hs2]; exact q8 H8 (Ex.refl _)⟩)) (fun hb H7 e7 => ?_) fun hb H7 e7 => ?_
                · have hnn : isNil b2 = false := by
                    cases c : isNil b2 with
                    | false => rfl
                    | true => rw [c] at hb; cases hb
                  have h7 := h6.ex e7
                  have r7 := r6.ex e7
                  refine q_asg (ev_cb (ea_cons (ev_var rfl) ea_nil) (rc_lenL (sq_of h7.at_))) fun H8 e8 => ?_
                  have h8 := h7.ex e8
                  have r8 := r7.ex e8
                  refine c_callXL (σ := [some (.ref a), some (.ref q6), some (.ref bs), some (.int (acc1.length : Int)), some (.int (acc6.length : Int))]) (ev_op (ev_var rfl) ev_c (rv_ixT (ex_t r8.s hys) at3)) (el_cat h8.at_ (ev_var rfl) (el_lst (ea_cons ev_c ea_nil) (by show 1 ≤ 100000; decide)) (by show acc6.length + 1 ≤ 100000; omega)) fun p9 H9 hp9 e9 hp9' => ?_
                  have r9 := r8.new hp9 e9
                  have h9 : At K p9 H9 (acc6 ++ [V.non]) (es1 ++ [PyData.none] ++ kb ++ [PyData.none]) := ⟨hp9', dpAll_append (h8.move hp9 e9) (.cons .non .nil)⟩
                  have el9 : (es1 ++ [PyData.none] ++ kb ++ [PyData.none]).length = es1.length + kb.length + 2 := by rw [List.length_append, List.length_append, el, List.length_singleton]; omega
                  refine ⟨v2, p9, _, _, b2, kind, k2, rfl, h9, dp_mono r9.hid hv2, hb2, by omega, by omega, by rw [el9]; omega, fun qA accA HA rA hA => ?_⟩
                  rw [el9] at hA
                  generalize hkc : codeBody g (es1.length + kb.length + 2) b2 = kc at *
                  have halA := hA.len
                  rw [List.length_append, el9] at halA
                  have rA := r9.call rA.f rA.s
                  refine q_setU (σ := [some (.ref a), some (.ref qA), some (.ref bs), some (.int (acc1.length : Int)), some (.int (acc6.length : Int))]) (j := acc6.length) hA.at_ (eu_tup (ea_cons ev_c (ea_cons (ev_cb (ea_cons (ev_var rfl) ea_nil) (rc_lenL (sq_of hA.at_))) ea_nil)) (by show 2 ≤ 100000; decide)) (ev_var rfl) (ev_var rfl) (by rw [halA, hal6]; omega) fun pB HB hpB eB hpB' => ?_
                  have hB := (hA.ex eB).set acc6.length (hA.new (ds := [.str "jump", .int (accA.length : Int)]) hpB eB hpB' (.cons (.str _) (.cons (.int _) .nil)))
                  have rB := (rA.ex eB).upd (ob := .lst (accA.set acc6.length (.ref pB)))
                  generalize upd HB qA (.lst (accA.set acc6.length (.ref pB))) = HC at hB rB
                  refine s_setU (j := acc1.length) hB.at_ (eu_tup (ea_cons ev_c (ea_cons (ev_op (ev_var rfl) ev_c (rv_ixT (ex_t rB.s hys) at1)) (ea_cons (ev_op (ev_var rfl) ev_c rv_I0) ea_nil))) (by show 3 ≤ 100000; decide)) (ev_var rfl) (ev_var rfl) (by rw [List.length_set, halA]; omega) fun pD HD hpD eD hpD' => ?_
                  have rD := rB.ex eD
                  have hD := (hB.ex eD).set acc1.length (hB.new (ds := [.str "test", c, .int ((acc6.length : Int) + 1)]) hpD eD hpD' (.cons (.str _) (.cons (dp_mono rD.hid hvc) (.cons (.int _) .nil))))
                  refine hgoal qA ((accA.set acc6.length (V.ref pB)).set acc1.length (V.ref pD)) _ _ ⟨_, _, _, rfl⟩ rD.upd ?_
                  have eF : (((es1 ++ [PyData.none] ++ kb ++ [PyData.none] ++ kc).set acc6.length (.tuple [.str "jump", .int (accA.length : Int)])).set acc1.length (.tuple [.str "test", c, .int ((acc6.length : Int) + 1)])) = es1 ++ codeIf (codeBody g) es1.length c b1 b2 := by
                    have e1 : es1 ++ [PyData.none] ++ kb ++ [PyData.none] ++ kc = (es1 ++ [PyData.none] ++ kb) ++ PyData.none :: kc := by rw [List.append_assoc (es1 ++ [PyData.none] ++ kb), List.singleton_append]
                    have e2 : acc6.length = (es1 ++ [PyData.none] ++ kb).length := by rw [hal6, List.length_append, el]
                    have e3 : (es1 ++ [PyData.none] ++ kb) ++ PyData.tuple [.str "jump", .int (accA.length : Int)] :: kc = es1 ++ PyData.none :: (kb ++ PyData.tuple [.str "jump", .int (accA.length : Int)] :: kc) := by
                      rw [List.append_assoc, List.append_assoc, List.singleton_append]
                    have e5 : ((acc6.length : Int) + 1) = ((es1.length + kb.length + 2 : Nat) : Int) := by rw [hal6]; omega
                    have e6 : (accA.length : Int) = ((es1.length + kb.length + 2 + kc.length : Nat) : Int) := by rw [halA]
                    rw [e5, e1, e2, set_mid, e3, hal1, set_mid]
                    unfold codeIf
                    rw [if_neg (by rw [hnn]; exact Bool.false_ne_true), hkb, hkc, e6]
                    rfl
                  rw [codeStmt_if, ← eF]
                  exact hD
                · have hnn : isNil b2 = true := by
                    cases c : isNil b2 with
                    | true => rfl
                    | false => rw [c] at hb; cases hb
                  have h7 := h6.ex e7
                  have r7 := r6.ex e7
                  refine s_setU (j := acc1.length) h7.at_ (eu_tup (ea_cons ev_c (ea_cons (ev_op (ev_var rfl) ev_c (rv_ixT (ex_t r7.s hys) at1)) (ea_cons (ev_cb (ea_cons (ev_var rfl) ea_nil) (rc_lenL (sq_of h7.at_))) ea_nil))) (by show 3 ≤ 100000; decide)) (ev_var rfl) (ev_var rfl) (by rw [hal6]; omega) fun p8 H8 hp8 e8 hp8' => ?_
                  have r8 := r7.ex e8
                  have h8 := (h7.ex e8).set acc1.length (h7.new (ds := [.str "test", c, .int (acc6.length : Int)]) hp8 e8 hp8' (.cons (.str _) (.cons (dp_mono r8.hid hvc) (.cons (.int _) .nil))))
                  refine hgoal q6 (acc6.set acc1.length (V.ref p8)) _ _ ⟨_, _, _, rfl⟩ r8.upd ?_
                  have e9 : ((es1 ++ [PyData.none] ++ kb).set acc1.length (.tuple [.str "test", c, .int (acc6.length : Int)])) = es1 ++ codeIf (codeBody g) es1.length c b1 b2 := by
                    have e1 : es1 ++ [PyData.none] ++ kb = es1 ++ PyData.none :: kb := by rw [List.append_assoc, List.singleton_append]
                    rw [e1, hal1, set_mid]
                    unfold codeIf
                    rw [if_pos hnn, hkb]
                    unfold tstD
                    have e2 : (acc6.length : Int) = ((es1.length + kb.length + 1 : Nat) : Int) := by rw [hal6]; omega
                    rw [e2]
                  rw [codeStmt_if, ← e9]
                  exact h8
            · have hblk : isBlk z = false := by
                have hzi : ¬ z = "if" := of_decide_eq_false hzi
                unfold isBlk
                rw [beq_eq_false_iff_ne.mpr hzi, beq_eq_false_iff_ne.mpr hz]; rfl
              have h4 := h3.ex e4
              have r4 := r3.ex e4
              refine s_asgL (el_cat h4.at_ (ev_var rfl) (el_lst (ea_cons (ev_var rfl) ea_nil) (by show 1 ≤ 100000; decide)) (by show acc1.length + 1 ≤ 100000; omega)) fun q5 H5 hq5 e5 hq5' => ?_
              have r5 := r4.new hq5 e5
              refine hgoal q5 (acc1 ++ [V.ref bs]) _ _ ⟨_, _, _, rfl⟩ r5 ?_
              rw [codeStmt_one hblk]
              exact ⟨hq5', dpAll_append (h4.move hq5 e5) (.cons (dp_mono r5.hid hxs0) .nil)⟩
    · rintro σ' H' ⟨q, acc', o2, o3, o4, rfl, r1, h1⟩
      rw [hlx, List.take_length] at h1
      exact s_ret (ev_var rfl) fun H2 e2 => kk q acc' H2 (r1.ex e2) (h1.ex e2)
theorem ok__law_code (T : Txt w K mg) : ∀ f : Nat, Def P w K mg base CX0 (1 + f) "_law_code" ["_law_body_here", "_law_code_here"] (spLC K f)
  | 0 => (ok__law_code1 T 0 0 (fun _ _ _ _ => False) (fun g h => by omega) (Def.idle 0 T.F__law_code T.g__law_code (fun _ _ _ _ _ _ us hl => match us, hl with | [_, _], _ => rfl))).mono (by decide)
  | f + 1 => (ok__law_code1 T (f + 1) (1 + f) (spLC K f) (fun g h => by cases h; rfl) (ok__law_code T f)).mono (by omega)
end

end Nt

namespace Nt
open PySem PySem.Spec PyProof.Rows L2 Evl
/-! ### refused -/
section
variable {σ : L2.St} {H : Hp} {t1 t2 : TE} {x z : V}
theorem ev_cb1U {r : List V → Hp → VK → Prop} {ys : List V} (h1 : Ev t1 σ H x) (h2 : EvU t2 σ H ys) (k : ∀ p H1, Ex H H1 → H1 p = some (.tup ys) → RC r [x, .ref p] H1 z) : Ev (tCB r (tCons t1 (tCons t2 tNil))) σ H z := fun H1 e Q q =>
  h1 H1 e _ fun H2 e2 => h2 H2 (e.trans e2) _ fun p H3 hp e3 hp3 => k p H3 (e.trans (e2.trans e3)) hp3 H3 (Ex.refl _) Q fun H4 e4 => q H4 ((e2.trans e3).trans e4)
end
theorem c_dropS {σ : L2.St} {H : Hp} {sp : Sp} {E : L2.St → XK} {ta : TA} {vs : List V} {D : Ends} (ha : EvA ta σ H vs) (k : ∀ H1, Ex H H1 → sp vs H1 (fun _ H2 => D.nx σ H2) (E σ)) : tDrop (tCallS sp E ta) D σ H := ha H (Ex.refl _) _ k
def spRefd (K : PySem.W.Frag) : Sp := fun vs H Q _ => ∃ v d, vs = [v] ∧ Dp K H v d ∧ Sm d ∧ ∀ H', Same H H' → Q (.bl (!isProg d)) H'
theorem kitAny_no {K : PySem.W.Frag} {t : Value} : ∀ {us : List Value}, (∀ u, u ∈ us → PySem.W.kitOne K t u = some false) → PySem.W.kitAny K t us = some false
  | [], _ => rfl
  | u :: us, h => by
    unfold PySem.W.kitAny
    rw [h u (List.mem_cons_self ..)]
    exact kitAny_no fun x hx => h x (List.mem_cons_of_mem _ hx)
section
variable {P : Program} {w : World} {K : PySem.W.Frag} {mg : Str → Option Value} {base : Heap}
theorem ok__law_refused (T : Txt w K mg) : Def P w K mg base CX0 20 "_law_refused" ["_law_thing"] (spRefd K) := by
  have D_assemble := ok_assemble (P := P) (base := base) T
  refine mkDef T.F__law_refused T.g__law_refused sc__law_refused (fun _ _ _ _ _ _ us hl => match us, hl with | [_], _ => rfl) (fun vs H Q E h => ?_) (fun cdv A outer s H vs Q E hr h => ?_)
  · obtain ⟨v, d, rfl, _⟩ := h; rfl
  · obtain ⟨v, d, rfl, hd, hs, kk⟩ := h
    refine ⟨_, (pss_cons (ps_try_as (i := 1) rfl rfl sc__law_refused.nd rfl rfl ⟨rfl, by decide, .inl T.g_HouseError⟩ takes0 (fun W pn xe tk _ => by exact (pss_one (ps_expr (pe_callDX D_assemble (hr.mono (by omega)) rfl (fun σ => passAt tk σ) (pa_cons (pv 0) pa_nil))))) (fun a oe cls d pn hz hf => by exact (pss_cls (D := He.ga K "BadProgram") hz fun hz => (pss_one (ps_ret (pe_and (pe_callB (call_isE T.x_BadProgram.c hz hf) (by rfl) T.m_isinstance boot_isinstance (pa_cons (pv 1) (pa_cons (pe_gref rfl T.g_BadProgram) pa_nil))) (pe_one (pe_not (pe_callB (call_isET T.x_BadProgram.c hz hf) (by rfl) T.m_isinstance boot_isinstance (pa_cons (pv 1) (pa_cons (pe_tup (pa_cons (pe_gref rfl T.g_BadHistory) (pa_cons (pe_gref rfl T.g_BadRow) (pa_cons (pe_gref rfl T.g_BadSide) (pa_cons (pe_gref rfl T.g_BadSteps) (pa_cons (pe_gref rfl T.g_BadText) pa_nil)))))) pa_nil)))))))))))
      (pss_one (ps_ret pe_bl))), ?_⟩
    show tDrop (tCallS (spAsm K) _ (tCons (tVar 0) tNil)) _ [some v, none] H
    refine c_dropS (ea_cons (ev_var rfl) ea_nil) fun H1 e1 => ?_
    refine ⟨v, d, rfl, dp_mono e1 hd, hs, fun hp p acc H2 _ e2 _ => ?_, fun hp H2 e2 => ?_⟩
    · have := kk H2 (e1.trans e2)
      rw [hp] at this
      exact this
    · refine ⟨true, T.u_BadProgram_HouseError.m, fun _ a ha => ⟨rfl, rfl, ?_⟩, fun q => nomatch q⟩
      refine s_ret (ev_andV (a := true) (b := true) (ev_cb (ea_cons (ev_var rfl) (ea_cons ev_c ea_nil)) fun H3 e3 Q3 q3 => ⟨_, _, true, rfl, fun u r => r, T.u_BadProgram_BadProgram.i, q3 H3 (Ex.refl _)⟩) fun _ => ev_notV (a := false) (ev_cb1U (ev_var rfl) (eu_tup (ea_cons ev_c (ea_cons ev_c (ea_cons ev_c (ea_cons ev_c (ea_cons ev_c ea_nil))))) (by show 5 ≤ 100000; decide)) fun t H3 e3 ht H4 e4 Q4 q4 => ⟨t, _, _, false, rfl, e4 _ _ ht, .cons (.own _) (.cons (.own _) (.cons (.own _) (.cons (.own _) (.cons (.own _) .nil)))), kitAny_no ?_, q4 H4 (Ex.refl _)⟩)) fun H3 e3 => ?_
      · intro u hu
        simp only [List.mem_cons, List.not_mem_nil, or_false] at hu
        rcases hu with rfl | rfl | rfl | rfl | rfl
        · exact T.u_BadProgram_BadHistory.i
        · exact T.u_BadProgram_BadRow.i
        · exact T.u_BadProgram_BadSide.i
        · exact T.u_BadProgram_BadSteps.i
        · exact T.u_BadProgram_BadText.i
      · have := kk H3 (e1.trans (e2.trans e3))
        rw [hp] at this
        exact this
end

end Nt

namespace Nt
open PySem PySem.Spec PyProof.Rows L2 Evl
/-! ### the law -/
def W0 : Wd where
  M := fun _ => false
  J := fun _ => True
  live := fun _ _ _ h => nomatch h
  loc := fun _ _ _ _ => trivial
section
variable {W : Wd} {K : PySem.W.Frag} {σ : L2.St} {H : Hp} {te ta tb : TE} {D : Ends} {tu : TS}
theorem em_isB {P1 P2 : Bool → Prop} {P : Bool → Prop} (ha : Em W K ta σ H (IsB P1)) (hb : Em W K tb σ H (IsB P2)) (hc : ∀ i j, P1 i → P2 j → P (decide (i = j))) : Em W K (tOp (fun x y H Q => ∃ a b, x = .bl a ∧ y = .bl b ∧ Q (.bl (decide (a = b))) H) ta tb) σ H (IsB P) :=
  em_op ha hb fun x y dx dy H1 e hx px hy py Q q => by
    obtain ⟨i, rfl, p1⟩ := px
    obtain ⟨j, rfl, p2⟩ := py
    cases dpB hx
    cases dpB hy
    exact ⟨i, j, rfl, rfl, q _ _ H1 (.refl e.j) (.bl _) ⟨_, rfl, hc i j p1 p2⟩⟩
theorem em_isntB {P1 P2 : Bool → Prop} {P : Bool → Prop} (ha : Em W K ta σ H (IsB P1)) (hb : Em W K tb σ H (IsB P2)) (hc : ∀ i j, P1 i → P2 j → P (!decide (i = j))) : Em W K (tOp (fun x y H Q => ∃ a b, x = .bl a ∧ y = .bl b ∧ Q (.bl (!decide (a = b))) H) ta tb) σ H (IsB P) :=
  em_op ha hb fun x y dx dy H1 e hx px hy py Q q => by
    obtain ⟨i, rfl, p1⟩ := px
    obtain ⟨j, rfl, p2⟩ := py
    cases dpB hx
    cases dpB hy
    exact ⟨i, j, rfl, rfl, q _ _ H1 (.refl e.j) (.bl _) ⟨_, rfl, hc i j p1 p2⟩⟩
theorem m_forRL {ta : TA} {j : Nat} {Pn : Int → Prop} (jH : W.J H) (h : EmA W K ta σ H fun ds => ∃ n, ds = [.int n] ∧ Pn n) (hn : ∀ n, Pn n → -100000 ≤ n ∧ n ≤ 100000) (Pv : Int → Nat → L2.St → Hp → Prop) (h0 : ∀ n H1, Pn n → W.Le H H1 → Pv n 0 σ H1)
    (hs : ∀ n (i : Nat) σ' H', Pn n → (i : Int) < n → Pv n i σ' H' → tu { D with nx := Pv n (i + 1), ct := Pv n (i + 1), bk := D.nx } (σ'.set j (some (.int (i : Int)))) H') (hd : ∀ n σ' H', Pn n → Pv n n.toNat σ' H' → D.nx σ' H') : tFor (iRng1 ta) (gName j) tu D σ H :=
  m_forR (tz := tNext) (D := D) jH h hn Pv h0 hs hd
end
def spTrue (K : PySem.W.Frag) : Sp := fun vs H Q _ => ∃ v d, vs = [v] ∧ Dp K H v d ∧ Sm d ∧ ∀ H', Same H H' → Q (.bl true) H'
theorem em_right {W : Wd} {K : PySem.W.Frag} {σ : L2.St} {H : Hp} {te : TE} {E : XK} {P1 : PyData → Prop} (h : Em W K te σ H P1) (hp : ∀ d, P1 d → Sm d) : Em W K (tCall (spTrue K) [] E (tCons te tNil)) σ H (IsB fun b => b = true) :=
  em_pure1 h fun v d H1 e hd p => ⟨.bl true, .bool true, fun H2 e2 Q q E => ⟨v, d, rfl, dp_mono e2 (Wd.dp hd), hp d p, fun H' e' => q H' e'⟩, fun H2 => .bl _, _, rfl, rfl⟩
theorem isProg_nil {kind : Str} (h : okKind kind) : isProg (.tuple [.str kind, .tuple []]) = true := by
  rw [isProg_eq h, cntBody_nil]
  all_goals rfl
theorem isProg_lst {kind : Str} (h : okKind kind) : isProg (.tuple [.str kind, .list []]) = false := by
  rw [isProg_eq h, cntBody_not rfl]
theorem okProg.is {kind : Str} {d : PyData} (hk : okKind kind) (h : okProg kind 24 d) : isProg d = true := by
  obtain ⟨body, n, rfl, hc, h0, h1, _⟩ := h
  rw [isProg_eq hk, hc]
  exact decide_eq_true h1
theorem okProg.sm {kind : Str} {m : Int} {d : PyData} (h : okProg kind m d) : Sm d := by
  obtain ⟨body, n, _, hc, h0, h1, h2⟩ := h
  exact h2

end Nt

namespace Nt
open PySem PySem.Spec PyProof.Rows L2 Evl
/-! ### right, the law -/
def okIns (x : PyData) : Prop := ∃ z ps, x = .tuple (.str z :: ps) ∧ ((z = "test" ∨ z = "jump") → ∃ i, atI (PyData.str z :: ps) (-1) = some (.int i)) ∧ Pn 3 x
theorem words_ni {kind z : Str} (h : (words kind).contains z = true) : ¬ (z = "test" ∨ z = "jump") := by
  have hm : z ∈ words kind := List.contains_iff_mem.mp h
  unfold words wordsT wordsC at hm
  split at hm <;> simp only [List.mem_cons, List.not_mem_nil, or_false] at hm <;> rcases hm with q | q | q | q | q <;> (rw [q]; decide +kernel)
theorem okIns_tst {c : PyData} {n : Nat} (h : isCond c = true) : okIns (tstD c n) :=
  ⟨"test", [c, .int n], rfl, fun _ => ⟨n, rfl⟩, (Pn.tup (k := 1) (all3 (.at rfl) (sd_isCond h).pn (.at rfl))).mono (by decide)⟩
theorem okIns_jmp {n : Nat} : okIns (jmpD n) := ⟨"jump", [.int n], rfl, fun _ => ⟨n, rfl⟩, (Pn.tup (k := 0) (all2 (.at rfl) (.at rfl))).mono (by decide)⟩
theorem code_ok {kind : Str} : ∀ (f : Nat) (d : PyData) (n : Int) (m : Nat), cntBody kind f d = some n → ∀ x, x ∈ codeBody f m d → okIns x
  | 0, d, n, m, h, x, hx => by cases hx
  | f + 1, d, n, m, h, x, hx => by
    obtain ⟨ss, rfl⟩ := body_tup h
    rw [codeBody_S] at hx
    rw [cntBody_S] at h
    have hst : ∀ (s : PyData) (k : Int) (m : Nat), cntStmt kind (cntBody kind f) s = some k → ∀ x, x ∈ codeStmt (codeBody f) m s → okIns x := fun s k m hk x hx => by
      rcases stmt_cases hk with ⟨z, ps, rfl, hz, hw, hc, rfl⟩ | ⟨c, b, k1, rfl, hc, hb, rfl⟩ | ⟨c, b1, b2, k1, k2, rfl, hc, hb1, hb2, rfl⟩
      · rw [codeStmt_one hz] at hx
        rw [List.mem_singleton.mp hx]
        refine ⟨z, ps, rfl, fun q => absurd q (words_ni hw), (Pn.tup (k := 0) fun y hy => ?_).mono (by decide)⟩
        rcases List.mem_cons.mp hy with rfl | hy
        · exact .at rfl
        · exact .at (chk_atom hc y hy)
      · rw [codeStmt_while] at hx
        unfold codeWhile at hx
        rcases List.mem_cons.mp hx with rfl | hx
        · exact okIns_tst hc
        · rcases List.mem_append.mp hx with hx | hx
          · exact code_ok f b k1 _ hb x hx
          · rw [List.mem_singleton.mp hx]; exact okIns_jmp
      · rw [codeStmt_if] at hx
        unfold codeIf at hx
        split at hx
        · rcases List.mem_cons.mp hx with rfl | hx
          · exact okIns_tst hc
          · exact code_ok f b1 k1 _ hb1 x hx
        · rcases List.mem_cons.mp hx with rfl | hx
          · exact okIns_tst hc
          · rcases List.mem_append.mp hx with hx | hx
            · exact code_ok f b1 k1 _ hb1 x hx
            · rcases List.mem_cons.mp hx with rfl | hx
              · exact okIns_jmp
              · exact code_ok f b2 k2 _ hb2 x hx
    induction ss generalizing n m with
    | nil => cases hx
    | cons s ss ih =>
      rw [List.map_cons, sumO_cons] at h
      cases q1 : cntStmt kind (cntBody kind f) s with
      | none => rw [q1] at h; cases h
      | some a =>
        cases q2 : sumO (ss.map (cntStmt kind (cntBody kind f))) with
        | none => rw [q1, q2] at h; cases h
        | some b =>
          have hx : x ∈ codeStmt (codeBody f) m s ++ codeStmts (codeStmt (codeBody f)) (m + (codeStmt (codeBody f) m s).length) ss := hx
          rcases List.mem_append.mp hx with hx | hx
          · exact hst s a m q1 x hx
          · exact ih b _ q2 hx
def spRt (K : PySem.W.Frag) : Sp := fun vs H Q _ => ∃ u v es, vs = [u, v] ∧ Dp K H u (.list es) ∧ Dp K H v (.list es) ∧ (∀ x, x ∈ es → okIns x) ∧ ∀ H', Same H H' → Q (.bl true) H'
section
variable {P : Program} {w : World} {K : PySem.W.Frag} {mg : Str → Option Value} {base : Heap}
theorem ok__law_right (T : Txt w K mg) : Def P w K mg base CX0 2 "_law_right" ["_law_found", "_law_due"] (spRt K) := by
  have D__law_whole := ok__law_whole (P := P) (base := base) T
  refine mkDef T.F__law_right T.g__law_right sc__law_right (fun _ _ _ _ _ _ us hl => match us, hl with | [_, _], _ => rfl) (fun vs H Q E h => ?_) (fun cdv A outer s H vs Q E hr h => ?_)
  · obtain ⟨u, v, es, rfl, _⟩ := h; rfl
  · obtain ⟨u, v, es, rfl, hu, hv, hok, kk⟩ := h
    have hpn : Pn 4 (.list es) := .lst fun x hx => (hok x hx).choose_spec.choose_spec.2.2
    obtain ⟨p, xs, rfl, hp, hds⟩ := dpL hu
    refine ⟨_, (PSs.nox (pss_cons (ps_if (PW.pt (pw_or (pt_not (pt_val (pe_callB call_isi (by rfl) T.m_isinstance boot_isinstance (pa_cons (pv 0) (pa_cons (pe_bltn (v := .ty "list") rfl T.m_list boot_list rfl) pa_nil))))) (pw_or1 (pt_cmpR (op_neP hr.units) (pv 0) (pv 1) (nomark _))))) (pss_one (ps_ret pe_bl)) pss_nil)
      (pss_cons (ps_for PassesOwn.never rfl (pi_list (pv 0)) (pg_name (i := 2) sc__law_right.nd rfl (Or.inl rfl)) (pss_one (ps_if (PW.pt (pw_or (pt_not (pt_val (pe_callB call_isi (by rfl) T.m_isinstance boot_isinstance (pa_cons (pv 2) (pa_cons (pe_bltn (v := .ty "tuple") rfl T.m_tuple boot_tuple rfl) pa_nil))))) (pw_or1 (PW.pt (pw_and (pt_cmpR op_in_seq (pe_ix ix_tup (pv 2) pe_int (fun _ _ => rfl)) (pe_lst (pa_cons pe_str (pa_cons pe_str pa_nil))) (by rfl)) (pw_and1 (pt_not (pt_val (pe_callD D__law_whole (hr.mono (by omega)) rfl pass0 (pa_cons (pe_ix ix_tup (pv 2) (pe_un un_neg pe_int) (fun _ _ => rfl)) pa_nil)))))))))) (pss_one (ps_ret pe_bl)) pss_nil)))
      (pss_one (ps_ret pe_bl))))), ?_⟩
    refine q_when (b := false) (et_or (a := false) (b := false) (et_not (et_B (ev_cb (ea_cons (ev_var rfl) (ea_cons ev_c ea_nil)) (isi_d hu (kit_lst _))))) fun _ => et_test (ev_op (ev_var rfl) (ev_var rfl) fun H1 e1 Q1 q1 => ⟨.list es, .list es, dp_mono e1 hu, dp_mono e1 hv, hpn.p, hpn.p, by have := hpn.d; omega, by rw [PySem.SeqAt.eqv_refl_plain _ hpn.p]; exact q1 H1 (Ex.refl _)⟩)) (fun q => by cases q) fun _ H1 e1 => ?_
    refine q_forLn (ev_var rfl) (ex_l e1 hp) (fun i σ' H' => ∃ o2 : Option V, σ' = [some (.ref p), some v, o2] ∧ Same H H') (fun H2 e2 => ⟨none, rfl, e1.trans e2⟩) ?_ ?_ ?_
    · rintro i σ' H' hi ⟨o2, rfl, e2⟩; exact ex_l e2 hp
    · rintro i x σ' H2 hi ⟨o2, rfl, e2⟩
      obtain ⟨d, hd, hdx⟩ := dpAll_get (dpAll_mono e2 hds) hi
      obtain ⟨z, ps, rfl, hlast, _⟩ := hok d (List.mem_of_getElem? hd)
      obtain ⟨b, ys, rfl, hys, hdy⟩ := dpT hdx
      cases hdy with
      | @cons y0 yr _ _ hy0 hyr =>
        cases dpS hy0
        refine s_when (b := false) (et_or (a := false) (b := false) (et_not (et_B (ev_cb (ea_cons (ev_var rfl) (ea_cons ev_c ea_nil)) (isi_d hdx (kit_tup _))))) fun _ => ?_) (fun q => by cases q) fun _ H3 e3 => ⟨_, rfl, e2.trans e3⟩
        cases hc : (["test", "jump"] : List Str).contains z with
        | false => exact et_and (a := false) (b := false) (et_is (et_test (ev_inLs (ns := ["test", "jump"]) (ev_op (ev_var rfl) ev_c (rv_ixT hys at0)) el_two)) hc) fun q => by cases q
        | true =>
          have hz : z = "test" ∨ z = "jump" := by
            have := List.contains_iff_mem.mp hc
            simpa using this
          obtain ⟨k, hk⟩ := hlast hz
          obtain ⟨vl, hvl, hdl⟩ := dp_atI (.cons (.str z) hyr) hk
          refine et_and (a := true) (b := false) (et_is (et_test (ev_inLs (ns := ["test", "jump"]) (ev_op (ev_var rfl) ev_c (rv_ixT hys at0)) el_two)) hc) fun _ => et_is (et_not (et_B (ev_call (ea_cons (ev_op (y := .int (-1)) (ev_var rfl) (fun H3 e3 Q3 q3 => ⟨1, rfl, q3 H3 (Ex.refl _)⟩) (rv_ixT hys hvl)) ea_nil) (spv1 hdl)))) rfl
    · rintro σ' H2 ⟨o2, rfl, e2⟩
      exact s_ret ev_c fun H3 e3 => kk H3 (e2.trans e3)
theorem At.lst {p : Addr} {H : Hp} {acc : List V} {es : List PyData} (h : At K p H acc es) : Dp K H (.ref p) (.list es) := .lst (sq_of h.at_) (dpAll_mono hid_same h.dp)
theorem spvRt {u v : V} {es : List PyData} {H : Hp} (hu : Dp K H u (.list es)) (hv : Dp K H v (.list es)) (hok : ∀ x, x ∈ es → okIns x) : SpV (spRt K) [u, v] H (.bl true) := fun H1 e Q q E => ⟨u, v, es, rfl, dp_mono e hu, dp_mono e hv, hok, fun H' e' => q H' e'⟩
theorem em_refd {W : Wd} {σ : L2.St} {H : Hp} {te : TE} {E : XK} {P1 : PyData → Prop} {P : Bool → Prop} (h : Em W K te σ H P1) (hp : ∀ d, P1 d → Sm d ∧ P (!isProg d)) : Em W K (tCall (spRefd K) [] E (tCons te tNil)) σ H (IsB P) :=
  em_pure1 h fun v d H1 e hd p => ⟨.bl (!isProg d), .bool (!isProg d), fun H2 e2 Q q E => ⟨v, d, rfl, dp_mono e2 (Wd.dp hd), (hp d p).1, fun H' e' => q H' e'⟩, fun H2 => .bl _, _, rfl, (hp d p).2⟩
theorem ok_law {f : Addr} {fd : FuncData} (T : Txt w K mg) (F : FunD K "law" "law" (defArgs s_law) (defBody s_law) (defScope s_law) [] [] f fd) : FnOk P w K mg base CX0 21 f fd ["_law_script"] (spLaw K) := by
  have D__law_draw := ok__law_draw (P := P) (base := base) T
  have D__law_bag := ok__law_bag (P := P) (base := base) T
  have D__law_kind := ok__law_kind (P := P) (base := base) T
  have D__law_program := ok__law_program (P := P) (base := base) T
  have D__law_code := ok__law_code (P := P) (base := base) T 4
  have D_assemble := ok_assemble (P := P) (base := base) T
  have D__law_right := ok__law_right (P := P) (base := base) T
  have D__law_refused := ok__law_refused (P := P) (base := base) T
  have D__law_is_program := ok__law_is_program (P := P) (base := base) T
  have D__law_spoilt := ok__law_spoilt (P := P) (base := base) T 10
  refine F.ok sc_law (fun vs H Q E h => ?_) (fun cdv A outer s H vs Q E hr h => ?_)
  · obtain ⟨a, ns, rfl, _⟩ := h; rfl
  · obtain ⟨a, ns, rfl, hx, hns, kk⟩ := h
    refine ⟨_, (PSs.nox (pss_cons (ps_for PassesOwn.never rfl (pi_range1 (by rfl) T.m_range (pa_cons (pe_callB (call_max2 rfl) (by rfl) T.m_max boot_max (pa_cons pe_int (pa_cons (pe_callB (call_min2 rfl) (by rfl) T.m_min boot_min (pa_cons pe_int (pa_cons (pe_callB call_len_seq (by rfl) T.m_len boot_len (pa_cons (pv 0) pa_nil)) pa_nil))) pa_nil))) pa_nil)) (pg_name (i := 1) sc_law.nd rfl (Or.inl rfl)) (pss_cons (ps_set (i := 2) sc_law.nd rfl (Or.inl rfl) (pe_callD D__law_bag (hr.mono (by omega)) rfl pass0 (pa_cons (pv 0) (pa_cons (pv 1) pa_nil))))
      (pss_cons (ps_set (i := 3) sc_law.nd rfl (Or.inl rfl) (pe_callD D__law_program (hr.mono (by omega)) rfl pass0 (pa_cons (pv 2) (pa_cons (pe_callD D__law_kind (hr.mono (by omega)) rfl pass0 (pa_cons (pv 2) pa_nil)) (pa_cons pe_int pa_nil)))))
      (pss_cons (ps_set (i := 4) sc_law.nd rfl (Or.inl rfl) (pe_callD D__law_code (hr.mono (by omega)) rfl pass0 (pa_cons (pe_ix ix_tup (pv 3) pe_int (fun _ _ => rfl)) (pa_cons (pe_lst pa_nil) pa_nil))))
      (pss_cons (ps_set (i := 5) sc_law.nd rfl (Or.inl rfl) (pe_callD D_assemble (hr.mono (by omega)) rfl passL (pa_cons (pv 3) pa_nil)))
      (pss_cons (ps_if (pt_not (pt_val (pe_callD D__law_right (hr.mono (by omega)) rfl pass0 (pa_cons (pv 5) (pa_cons (pv 4) pa_nil))))) (pss_one (ps_ret pe_bl)) pss_nil)
      (pss_cons (ps_expr (pe_bm PySem.F.plainAttrs_list PySem.F.slot_list_append PySem.F.type_list_append mt_append (pv 5) (pa_cons (pe_tup (pa_cons pe_str (pa_cons pe_int pa_nil))) pa_nil)))
      (pss_cons (ps_expr (pe_bm0 PySem.F.plainAttrs_list PySem.F.slot_list_reverse PySem.F.type_list_reverse mt_reverse (pv 5)))
      (pss_cons (ps_if (pt_not (pt_val (pe_callD D__law_right (hr.mono (by omega)) rfl pass0 (pa_cons (pe_callD D_assemble (hr.mono (by omega)) rfl passL (pa_cons (pv 3) pa_nil)) (pa_cons (pv 4) pa_nil))))) (pss_one (ps_ret pe_bl)) pss_nil)
      (pss_cons (ps_set (i := 6) sc_law.nd rfl (Or.inl rfl) (pe_callD D__law_spoilt (hr.mono (by omega)) rfl pass0 (pa_cons (pv 2) (pa_cons (pv 3) pa_nil))))
      (pss_one (ps_if (PW.pt (pw_and (pt_not (pt_val (pe_callD D__law_is_program (hr.mono (by omega)) rfl pass0 (pa_cons (pv 6) pa_nil)))) (pw_and1 (pt_not (pt_val (pe_callD D__law_refused (hr.mono (by omega)) rfl pass0 (pa_cons (pv 6) pa_nil))))))) (pss_one (ps_ret pe_bl)) pss_nil))))))))))))
      (pss_one (ps_ret (pe_and (pe_cmpR (op_eqP hr.units) (pe_callD D_assemble (hr.mono (by omega)) rfl passL (pa_cons (pe_tup (pa_cons pe_str (pa_cons (pe_tup pa_nil) pa_nil))) pa_nil)) (pe_lst pa_nil) (nomark _)) (pe_and (pe_callD D__law_refused (hr.mono (by omega)) rfl pass0 (pa_cons (pe_lst pa_nil) pa_nil)) (pe_one (pe_callD D__law_refused (hr.mono (by omega)) rfl pass0 (pa_cons pe_str pa_nil))))))))), ?_⟩
    generalize hN : (if (if ((ns.map V.int).length : Int) < 10 then ((ns.map V.int).length : Int) else 10) > 2 then (if ((ns.map V.int).length : Int) < 10 then ((ns.map V.int).length : Int) else 10) else 2) = N
    have hN2 : 0 ≤ N ∧ N ≤ 10 := by
      rw [← hN]
      split <;> split <;> omega
    refine q_forR1 (n := N) (ea_cons (ev_is (ev_cb (ea_cons ev_c (ea_cons (ev_cb (ea_cons ev_c (ea_cons (ev_cb (ea_cons (ev_var rfl) ea_nil) (rc_lenL hx)) ea_nil)) rc_min) ea_nil)) rc_max) (by rw [hN])) ea_nil) (by omega)
      (fun i σ' H' => ∃ o1 o2 o3 o4 o5 o6 : Option V, σ' = [some (.ref a), o1, o2, o3, o4, o5, o6] ∧ SqL K H' a (ns.map V.int))
      (fun H1 e => ⟨none, none, none, none, none, none, rfl, ex_l e hx⟩) ?_ ?_
    · rintro i σ' H1 hi ⟨o1, o2, o3, o4, o5, o6, rfl, hx1⟩
      refine ⟨_, rfl, _, rfl, a, ns, i, rfl, hx1, by omega, fun b H2 hb e2 hbag => ?_⟩
      have hB := bagW_has b
      have hsx : SqL K ((bagW b).wo H2) a (ns.map V.int) := ex_l (bag_same hb e2) hx1
      have j2 : (bagW b).J H2 := hbag
      show tSeq (tAsg (tCall (spB K progA progG) [] E0 (tCons (tVar 2) _)) (gName 3)) _ _ [some (.ref a), some (.int i), some (.ref b), o3, o4, o5, o6] H2
      clear hbag
      generalize bagW b = W at hB hsx j2
      refine m_asg (K := K) (P := fun d => ∃ kind, okKind kind ∧ okProg kind 24 d) j2 (Em.imp (em_help (A' := fun ds => ∃ kind, ds = [.str kind, .int 24] ∧ okKind kind) rfl hB (ema_cons (em_no (G := kindG) rfl hB) fun d hd => ema_cons (P1 := fun d => d = .int 24) (em_int rfl) fun d' hd' => ema_nil ?_) ?_) ?_) ?_
      · obtain ⟨kind, rfl, hk⟩ := hd; exact ⟨kind, by rw [hd'], hk⟩
      · rintro ds ⟨kind, rfl, hk⟩; exact ⟨kind, 24, rfl, hk, by decide, by decide⟩
      · rintro d ⟨ds, ⟨kind, rfl, hk⟩, k2, m2, e, h⟩
        have h1 : k2 = kind := by injection e with e; injection e with e; exact e.symm
        have h2 : m2 = 24 := by injection e with _ e; injection e with e; injection e with e; exact e.symm
        rw [h1, h2] at h
        exact ⟨kind, hk, h⟩
      rintro v d H3 e3 hd3 ⟨kind, hk, hok⟩
      have hisp := hok.is hk
      have hsmd := hok.sm
      have hsd := hok.sd (by decide)
      obtain ⟨body, n, rfl, hc, hn0, hn24, _⟩ := hok
      obtain ⟨pa, xs, rfl, hpa, hds⟩ := dpT (Wd.dp hd3)
      obtain ⟨x0, x1, rfl⟩ := len2 (dpAll_len hds)
      obtain ⟨_, _, e, hx0, hx1b⟩ := dp2 hds
      cases e
      have hdp : Dp K H3 (.ref pa) (.tuple [.str kind, body]) := Wd.dp hd3
      have hcode : ∀ x, x ∈ asm (.tuple [.str kind, body]) → okIns x := code_ok 4 body n 0 hc
      -- due
      refine c_callXL (σ := [some (.ref a), some (.int i), some (.ref b), some (.ref pa), o4, o5, o6]) (ev_op (ev_var rfl) ev_c (rv_ixT hpa at1)) (el_lst ea_nil (by show 0 ≤ 100000; decide)) fun p4 H4 hp4 e4 hp4' => ?_
      have hid4 : Same H3 (hid p4 H4) := fun c o hc => hid_at (ne_of_none hc hp4) (e4 c o hc)
      refine ⟨x1, p4, [], [], body, kind, n, rfl, ⟨hp4', .nil⟩, dp_mono hid4 hx1b, hc, by omega, by decide, by show (0 : Int) + 2 * n ≤ 10000; omega, fun q5 acc5 H5 r5 h5 => ?_⟩
      have s5 : Same H3 H5 := hid4.trans r5.s
      show tSeq _ _ _ [some (.ref a), some (.int i), some (.ref b), some (.ref pa), some (.ref q5), o5, o6] H5
      -- found
      refine c_asg (ea_cons (ev_var rfl) ea_nil) fun H6 e6 => ?_
      refine ⟨.ref pa, _, rfl, dp_mono (s5.trans e6) hdp, hsmd, fun _ p7 acc7 H7 hp7 e7 h7 => ?_, fun q => by rw [hisp] at q; cases q⟩
      have h6 : At K q5 H6 acc5 (asm (.tuple [.str kind, body])) := h5.ex e6
      have hd6 := h6.lst
      show tSeq _ _ _ [some (.ref a), some (.int i), some (.ref b), some (.ref pa), some (.ref q5), some (.ref p7), o6] H7
      refine q_when (b := false) (et_not (et_B (ev_call (ea_cons (ev_var rfl) (ea_cons (ev_var rfl) ea_nil)) (spvRt h7.lst (dp_mono e7 hd6) hcode)))) (fun q => by cases q) fun _ H8 e8 => ?_
      have h8 := h7.ex e8
      have s68 : Same H6 (hid p7 H8) := fun c o hc => hid_at (ne_of_none hc hp7) ((e7.trans e8) c o hc)
      have hlen7 : acc7.length ≤ 10000 := by
        rw [h7.len]
        have := code_len 4 body n 0 hc
        show (codeBody 4 0 body).length ≤ 10000
        omega
      refine q_appU h8.at_ (ev_var rfl) (eu_tup (ea_cons ev_c (ea_cons ev_c ea_nil)) (by show 2 ≤ 100000; decide)) (by omega) fun p9 H9 hp9 e9 hp9' => ?_
      have s69 : Same H6 (hid p7 (upd H9 p7 (.lst (acc7 ++ [.ref p9])))) := s68.trans ((hid_mono e9).trans hid_upd)
      have hat9 : upd H9 p7 (.lst (acc7 ++ [.ref p9])) p7 = some (.lst (acc7 ++ [.ref p9])) := upd_same
      generalize upd H9 p7 (.lst (acc7 ++ [.ref p9])) = H10 at s69 hat9
      show tSeq (tDrop (tBM0 _ _ _ (tVar 5))) _ _ [some (.ref a), some (.int i), some (.ref b), some (.ref pa), some (.ref q5), some (.ref p7), o6] H10
      refine ⟨_, rfl, .inl ⟨rfl, _, sq_of hat9⟩, p7, _, rfl, rfl, hat9, ?_⟩
      have s6B : Same H6 (upd H10 p7 (.lst (acc7 ++ [V.ref p9]).reverse)) := (s69.trans hid_upd).trans hid_same
      generalize upd H10 p7 (.lst (acc7 ++ [V.ref p9]).reverse) = H11 at s6B
      show tSeq _ _ _ [some (.ref a), some (.int i), some (.ref b), some (.ref pa), some (.ref q5), some (.ref p7), o6] H11
      have evr : Ev (tCall (spRt K) [] E0 (tCons (tCall (spAsm K) [] E0 (tCons (tVar 3) tNil)) (tCons (tVar 4) tNil))) [some (.ref a), some (.int i), some (.ref b), some (.ref pa), some (.ref q5), some (.ref p7), o6] H11 (.bl true) := fun H12 e12 Q12 q12 =>
        c_call (sp := spAsm K) (dvs := []) (E := E0) (Q := fun v H13 => (tCons (tVar 4) tNil) [some (.ref a), some (.int i), some (.ref b), some (.ref pa), some (.ref q5), some (.ref p7), o6] H13 fun vs H14 => spRt K ((v :: vs) ++ []) H14 Q12 E0) (ea_cons (ev_var (i := 3) rfl) ea_nil) fun H13 e13 =>
          ⟨.ref pa, _, rfl, dp_mono (s5.trans (e6.trans (s6B.trans (e12.trans e13)))) hdp, hsmd, fun _ p14 acc14 H14 hp14 e14 h14 => ⟨_, rfl, .ref p14, .ref q5, _, rfl, h14.lst, dp_mono (s6B.trans (e12.trans (e13.trans e14))) hd6, hcode, fun H' e' => q12 H' (e13.trans (e14.trans e'))⟩, fun q => by rw [hisp] at q; cases q⟩
      refine q_when (b := false) (et_not (et_B evr)) (fun q => by cases q) fun _ H12 e12 => ?_
      have s12 : Same H3 H12 := s5.trans (e6.trans (s6B.trans e12))
      have le12 : W.Le H3 H12 := .of_same e3.j s12
      -- thing
      refine m_asg (K := K) (P := Sm) le12.j (Em.imp (em_help (A' := sptA 10) rfl hB (ema_cons (P1 := fun y => y = .tuple [.str kind, body]) (em_is rfl (le12.dp hd3)) fun y hy => ema_nil ⟨y, rfl, by rw [hy]; exact hsd⟩) fun _ h => h) ?_) ?_
      · rintro d ⟨_, _, h⟩; exact h
      intro vt dt H13 e13 hdt hst
      refine m_ifL (P := fun c => c = false) e13.j (emt_and (P1 := fun c => c = !isProg dt) (emt_not (EmT.imp (emt_B (em_prog (K := K) (P1 := fun y => y = dt) (P := fun c => c = isProg dt) (em_is rfl hdt) fun y hy => by rw [hy]; exact ⟨hst, rfl⟩)) fun c hc => by rw [hc])) (fun hq => emt_not (EmT.imp (emt_B (em_refd (K := K) (P1 := fun y => y = dt) (P := fun c => c = true) (em_is rfl hdt) fun y hy => by rw [hy]; exact ⟨hst, hq.symm⟩)) fun c hc => by rw [hc]; rfl)) fun _ => rfl) (fun q => by cases q) fun _ H14 e14 => ?_
      exact ⟨_, _, _, _, _, _, rfl, sqL_wo (ex_l (e3.trans (le12.trans (e13.trans e14))).s hsx)⟩
    · rintro σ' H1 ⟨o1, o2, o3, o4, o5, o6, rfl, hx1⟩
      have emr : ∀ (te : TE) (d : PyData), (∀ H', W0.Le H1 H' → Em W0 K te [some (.ref a), o1, o2, o3, o4, o5, o6] H' (fun x => x = d)) → Sm d → isProg d = false → Em W0 K (tCall (spRefd K) [] E0 (tCons te tNil)) [some (.ref a), o1, o2, o3, o4, o5, o6] H1 (IsB fun c => c = true) := fun te d h hs hp =>
        em_refd (h H1 (.refl trivial)) fun y hy => by rw [hy]; exact ⟨hs, by rw [hp]; rfl⟩
      have hp0 : isProg (.tuple [.str "collector", .tuple []]) = true := isProg_nil (.inr rfl)
      have em1 : Em W0 K (tOp (rEqP K) (tCall (spAsm K) [] E0 (tCons (tTup (tCons (tC (.str "collector")) (tCons (tTup tNil) tNil))) tNil)) (tLst tNil)) [some (.ref a), o1, o2, o3, o4, o5, o6] H1 (IsB fun c => c = true) := fun H2 e2 Q2 q2 => by
        show (tTup (tCons (tC (.str "collector")) (tCons (tTup tNil) tNil))) [some (.ref a), o1, o2, o3, o4, o5, o6] H2 (fun v H3 => spAsm K ([v] ++ []) H3 (fun x H4 => (tLst tNil) [some (.ref a), o1, o2, o3, o4, o5, o6] H4 fun y H5 => rEqP K x y H5 Q2) E0)
        refine (em_tup (W := W0) (K := K) (σ := [some (.ref a), o1, o2, o3, o4, o5, o6]) (P := fun d => d = .tuple [.str "collector", .tuple []]) (ema_cons (P1 := fun d => d = .str "collector") (em_str rfl) fun d0 h0 => ema_cons (P1 := fun d => d = .tuple []) (em_tup (ema_nil ⟨ok20, rfl⟩)) fun d1 h1 => ema_nil ⟨ok20, by rw [h0, h1]⟩)) H2 (.refl trivial) _ fun v d H3 e3 hd hdd => ?_
        rw [hdd] at hd
        refine ⟨v, _, rfl, Wd.dp hd, .tuple ok20 (all2 (.str _) (.tuple ok20 fun x hx => by cases hx)), fun _ p acc H4 hp4 e4 h4 => ?_, fun q => by rw [hp0] at q; cases q⟩
        have ha : asm (.tuple [.str "collector", .tuple []]) = [] := codeBody_nil
        refine ⟨sz_of (by show 0 ≤ 100000; decide), fun l hl => ?_⟩
        have e5 : Same H4 (upd H4 l (.lst [])) := Same.new hl
        refine ⟨.list [], .list [], by rw [← ha]; exact (h4.ex e5).lst, .lst (sq_of upd_same) .nil, by decide +kernel, by decide +kernel, by decide +kernel, ?_⟩
        have : PyData.eqv (.list []) (.list []) = true := by decide +kernel
        rw [this]
        exact q2 (.bl true) (.bool true) _ (e3.trans (.of_same trivial (e4.trans e5))) (.bl true) ⟨true, rfl, rfl⟩
      refine m_ret (W := W0) (K := K) (P := IsB fun c => c = true) trivial (em_andV em1 (fun _ => em_andV (emr _ (.list []) (fun H' _ => em_lst (ema_nil ⟨ok20, rfl⟩)) (.list ok20 fun x hx => by cases hx) rfl) (fun _ => emr _ (.str "teller") (fun H' _ => em_str rfl) (.str _) rfl) fun h => h) fun h => h) ?_
      rintro v d H2 e2 hd2 ⟨c, rfl, rfl⟩
      cases dpB hd2
      exact kk H2
end

end Nt

namespace Nt
open PySem PySem.Spec PyProof.Rows L2
def d_is_integer : He.DefD := ⟨("is_integer", none), "is_integer", "is_integer", defArgs s_is_integer, defBody s_is_integer, defScope s_is_integer, [], []⟩
def d_is_one_of : He.DefD := ⟨("is_one_of", none), "is_one_of", "is_one_of", defArgs s_is_one_of, defBody s_is_one_of, defScope s_is_one_of, [], []⟩
def d_is_value : He.DefD := ⟨("is_value", none), "is_value", "is_value", defArgs s_is_value, defBody s_is_value, defScope s_is_value, [], []⟩
def d_is_term : He.DefD := ⟨("is_term", none), "is_term", "is_term", defArgs s_is_term, defBody s_is_term, defScope s_is_term, [], []⟩
def d_is_condition : He.DefD := ⟨("is_condition", none), "is_condition", "is_condition", defArgs s_is_condition, defBody s_is_condition, defScope s_is_condition, [], []⟩
def d_is_set : He.DefD := ⟨("is_set", none), "is_set", "is_set", defArgs s_is_set, defBody s_is_set, defScope s_is_set, [], []⟩
def d_is_add : He.DefD := ⟨("is_add", none), "is_add", "is_add", defArgs s_is_add, defBody s_is_add, defScope s_is_add, [], []⟩
def d_is_wait : He.DefD := ⟨("is_wait", none), "is_wait", "is_wait", defArgs s_is_wait, defBody s_is_wait, defScope s_is_wait, [], []⟩
def d_is_ask : He.DefD := ⟨("is_ask", none), "is_ask", "is_ask", defArgs s_is_ask, defBody s_is_ask, defScope s_is_ask, [], []⟩
def d_is_answer : He.DefD := ⟨("is_answer", none), "is_answer", "is_answer", defArgs s_is_answer, defBody s_is_answer, defScope s_is_answer, [], []⟩
def d_is_one_term : He.DefD := ⟨("is_one_term", none), "is_one_term", "is_one_term", defArgs s_is_one_term, defBody s_is_one_term, defScope s_is_one_term, [], []⟩
def d_count_block : He.DefD := ⟨("count_block", none), "count_block", "count_block", defArgs s_count_block, defBody s_count_block, defScope s_count_block, [], []⟩
def d_count_statement : He.DefD := ⟨("count_statement", none), "count_statement", "count_statement", defArgs s_count_statement, defBody s_count_statement, defScope s_count_statement, [], []⟩
def d_count_body : He.DefD := ⟨("count_body", none), "count_body", "count_body", defArgs s_count_body, defBody s_count_body, defScope s_count_body, [], []⟩
def d_is_program : He.DefD := ⟨("is_program", none), "is_program", "is_program", defArgs s_is_program, defBody s_is_program, defScope s_is_program, [], []⟩
def d_check_program : He.DefD := ⟨("check_program", none), "check_program", "check_program", defArgs s_check_program, defBody s_check_program, defScope s_check_program, [], [("kind", .non)]⟩
def d_place_if : He.DefD := ⟨("place_if", none), "place_if", "place_if", defArgs s_place_if, defBody s_place_if, defScope s_place_if, [], []⟩
def d_place_while : He.DefD := ⟨("place_while", none), "place_while", "place_while", defArgs s_place_while, defBody s_place_while, defScope s_place_while, [], []⟩
def d_place_body : He.DefD := ⟨("place_body", none), "place_body", "place_body", defArgs s_place_body, defBody s_place_body, defScope s_place_body, [], []⟩
def d_assemble : He.DefD := ⟨("assemble", none), "assemble", "assemble", defArgs s_assemble, defBody s_assemble, defScope s_assemble, [], []⟩
def d__law_bag : He.DefD := ⟨("_law_bag", none), "_law_bag", "_law_bag", defArgs s__law_bag, defBody s__law_bag, defScope s__law_bag, [], []⟩
def d__law_draw : He.DefD := ⟨("_law_draw", none), "_law_draw", "_law_draw", defArgs s__law_draw, defBody s__law_draw, defScope s__law_draw, [], []⟩
def d__law_large : He.DefD := ⟨("_law_large", none), "_law_large", "_law_large", defArgs s__law_large, defBody s__law_large, defScope s__law_large, [], []⟩
def d__law_steps : He.DefD := ⟨("_law_steps", none), "_law_steps", "_law_steps", defArgs s__law_steps, defBody s__law_steps, defScope s__law_steps, [], []⟩
def d__law_term : He.DefD := ⟨("_law_term", none), "_law_term", "_law_term", defArgs s__law_term, defBody s__law_term, defScope s__law_term, [], []⟩
def d__law_condition : He.DefD := ⟨("_law_condition", none), "_law_condition", "_law_condition", defArgs s__law_condition, defBody s__law_condition, defScope s__law_condition, [], []⟩
def d__law_simple : He.DefD := ⟨("_law_simple", none), "_law_simple", "_law_simple", defArgs s__law_simple, defBody s__law_simple, defScope s__law_simple, [], []⟩
def d__law_statement : He.DefD := ⟨("_law_statement", none), "_law_statement", "_law_statement", defArgs s__law_statement, defBody s__law_statement, defScope s__law_statement, [], []⟩
def d__law_body : He.DefD := ⟨("_law_body", none), "_law_body", "_law_body", defArgs s__law_body, defBody s__law_body, defScope s__law_body, [], []⟩
def d__law_program : He.DefD := ⟨("_law_program", none), "_law_program", "_law_program", defArgs s__law_program, defBody s__law_program, defScope s__law_program, [], []⟩
def d__law_kind : He.DefD := ⟨("_law_kind", none), "_law_kind", "_law_kind", defArgs s__law_kind, defBody s__law_kind, defScope s__law_kind, [], []⟩
def d__law_whole : He.DefD := ⟨("_law_whole", none), "_law_whole", "_law_whole", defArgs s__law_whole, defBody s__law_whole, defScope s__law_whole, [], []⟩
def d__law_code : He.DefD := ⟨("_law_code", none), "_law_code", "_law_code", defArgs s__law_code, defBody s__law_code, defScope s__law_code, [], []⟩
def d__law_is_term : He.DefD := ⟨("_law_is_term", none), "_law_is_term", "_law_is_term", defArgs s__law_is_term, defBody s__law_is_term, defScope s__law_is_term, [], []⟩
def d__law_is_variable : He.DefD := ⟨("_law_is_variable", none), "_law_is_variable", "_law_is_variable", defArgs s__law_is_variable, defBody s__law_is_variable, defScope s__law_is_variable, [], []⟩
def d__law_is_condition : He.DefD := ⟨("_law_is_condition", none), "_law_is_condition", "_law_is_condition", defArgs s__law_is_condition, defBody s__law_is_condition, defScope s__law_is_condition, [], []⟩
def d__law_is_simple : He.DefD := ⟨("_law_is_simple", none), "_law_is_simple", "_law_is_simple", defArgs s__law_is_simple, defBody s__law_is_simple, defScope s__law_is_simple, [], []⟩
def d__law_count_one : He.DefD := ⟨("_law_count_one", none), "_law_count_one", "_law_count_one", defArgs s__law_count_one, defBody s__law_count_one, defScope s__law_count_one, [], []⟩
def d__law_count : He.DefD := ⟨("_law_count", none), "_law_count", "_law_count", defArgs s__law_count, defBody s__law_count, defScope s__law_count, [], []⟩
def d__law_is_program : He.DefD := ⟨("_law_is_program", none), "_law_is_program", "_law_is_program", defArgs s__law_is_program, defBody s__law_is_program, defScope s__law_is_program, [], []⟩
def d__law_odd : He.DefD := ⟨("_law_odd", none), "_law_odd", "_law_odd", defArgs s__law_odd, defBody s__law_odd, defScope s__law_odd, [], []⟩
def d__law_spoilt : He.DefD := ⟨("_law_spoilt", none), "_law_spoilt", "_law_spoilt", defArgs s__law_spoilt, defBody s__law_spoilt, defScope s__law_spoilt, [], []⟩
def d__law_refused : He.DefD := ⟨("_law_refused", none), "_law_refused", "_law_refused", defArgs s__law_refused, defBody s__law_refused, defScope s__law_refused, [], []⟩
def d__law_right : He.DefD := ⟨("_law_right", none), "_law_right", "_law_right", defArgs s__law_right, defBody s__law_right, defScope s__law_right, [], []⟩
def d_law : He.DefD := ⟨("law", none), "law", "law", defArgs s_law, defBody s_law, defScope s_law, [], []⟩
def fn : List He.DefD := ([d_is_integer, d_is_one_of, d_is_value, d_is_term, d_is_condition, d_is_set, d_is_add, d_is_wait, d_is_ask, d_is_answer, d_is_one_term, d_count_block, d_count_statement, d_count_body, d_is_program, d_check_program, d_place_if, d_place_while, d_place_body, d_assemble, d__law_bag, d__law_draw, d__law_large, d__law_steps, d__law_term, d__law_condition, d__law_simple, d__law_statement, d__law_body, d__law_program] : List He.DefD) ++ ([d__law_kind, d__law_whole, d__law_code, d__law_is_term, d__law_is_variable, d__law_is_condition, d__law_is_simple, d__law_count_one, d__law_count, d__law_is_program, d__law_odd, d__law_spoilt, d__law_refused, d__law_right, d_law] : List He.DefD)
def fa : List He.Fa := ([.free "ValueError", .free "len", .free "range", .free "tuple", .free "isinstance", .free "str", .free "sum", .free "int", .free "abs", .free "list", .free "max", .free "bool", .free "min", .int "MOST_STATEMENTS" 24, .int "MOST_DEPTH" 4, .int "LONGEST_WAIT" 1000000000000000000000000000000, .int "SIZE" 16, .glo "VARIABLES", .glo "COMPARISONS", .glo "DIRECTIONS", .glo "WORDS", .glo "BODIES", .glo "CHECKS", .glo "BLOCKS", .glo "is_integer", .glo "is_one_of", .glo "is_value", .glo "is_term", .glo "is_condition", .glo "is_set"] : List He.Fa) ++ ([.glo "is_add", .glo "is_wait", .glo "is_ask", .glo "is_answer", .glo "is_one_term", .glo "count_block", .glo "count_statement", .glo "count_body", .glo "is_program", .glo "check_program", .glo "place_if", .glo "place_while", .glo "place_body", .glo "assemble", .glo "_law_bag", .glo "_law_draw", .glo "_law_large", .glo "_law_steps", .glo "_law_term", .glo "_law_condition", .glo "_law_simple", .glo "_law_statement", .glo "_law_body", .glo "_law_program", .glo "_law_kind", .glo "_law_whole", .glo "_law_code", .glo "_law_is_term", .glo "_law_is_variable", .glo "_law_is_condition"] : List He.Fa) ++ ([.glo "_law_is_simple", .glo "_law_count_one", .glo "_law_count", .glo "_law_is_program", .glo "_law_odd", .glo "_law_spoilt", .glo "_law_refused", .glo "_law_right", .glo "law", .glo "HouseError", .glo "BadProgram", .glo "BadText", .glo "BadSide", .glo "BadSteps", .glo "BadHistory", .glo "BadRow"] : List He.Fa)
def ts : List He.Tab := ([(fun K => He.ga K "WORDS", ["teller", "collector"]), (fun K => He.ga K "BODIES", ["if", "while"]), (fun K => He.ga K "CHECKS", ["set", "add", "wait", "ask", "answer", "grow", "list"]), (fun K => He.ga K "BLOCKS", ["if", "while"])] : List He.Tab)
def exs (K : PySem.W.Frag) : List Bool := ([(kTup K (He.ga K "VARIABLES") [.str "a", .str "b"]), (kTup K (He.ga K "COMPARISONS") [.str "==", .str "!=", .str "<"]), (kTup K (He.ga K "DIRECTIONS") [.str "+", .str "-", .str "="]), (kTab K (He.ga K "WORDS") [("teller", .adr (tabAt "WORDS" "teller")), ("collector", .adr (tabAt "WORDS" "collector"))]), (kTup K (tabAt "WORDS" "teller" K) [.str "set", .str "add", .str "wait", .str "ask", .str "answer"]), (kTup K (tabAt "WORDS" "collector" K) [.str "set", .str "add", .str "wait", .str "grow", .str "list"]), (kTab K (He.ga K "BODIES") [("if", .int 2), ("while", .int 1)]), (kTab K (He.ga K "CHECKS") [("set", .glo "is_set"), ("add", .glo "is_add"), ("wait", .glo "is_wait"), ("ask", .glo "is_ask"), ("answer", .glo "is_answer"), ("grow", .glo "is_one_term"), ("list", .glo "is_one_term")]), (kTab K (He.ga K "BLOCKS") [("if", .glo "place_if"), ("while", .glo "place_while")]), (kExc K (He.ga K "HouseError") ve "ValueError.__new__"), (kExc K (He.ga K "BadProgram") ve "ValueError.__new__"), (kExc K (He.ga K "BadSide") ve "ValueError.__new__"), (kExc K (He.ga K "BadSteps") ve "ValueError.__new__"), (kExc K (He.ga K "BadRow") ve "ValueError.__new__"), (kUnd K (He.ga K "HouseError") (He.ga K "HouseError") true), (kUnd K (He.ga K "HouseError") (He.ga K "BadProgram") false), (kUnd K (He.ga K "HouseError") (He.ga K "BadText") false), (kUnd K (He.ga K "HouseError") (He.ga K "BadSide") false), (kUnd K (He.ga K "HouseError") (He.ga K "BadSteps") false), (kUnd K (He.ga K "HouseError") (He.ga K "BadHistory") false), (kUnd K (He.ga K "HouseError") (He.ga K "BadRow") false), (kUnd K (He.ga K "BadProgram") (He.ga K "HouseError") true), (kUnd K (He.ga K "BadProgram") (He.ga K "BadProgram") true), (kUnd K (He.ga K "BadProgram") (He.ga K "BadText") false), (kUnd K (He.ga K "BadProgram") (He.ga K "BadSide") false), (kUnd K (He.ga K "BadProgram") (He.ga K "BadSteps") false), (kUnd K (He.ga K "BadProgram") (He.ga K "BadHistory") false), (kUnd K (He.ga K "BadProgram") (He.ga K "BadRow") false), (kUnd K (He.ga K "BadText") (He.ga K "HouseError") true), (kUnd K (He.ga K "BadText") (He.ga K "BadProgram") false)] : List Bool) ++ ([(kUnd K (He.ga K "BadText") (He.ga K "BadText") true), (kUnd K (He.ga K "BadText") (He.ga K "BadSide") false), (kUnd K (He.ga K "BadText") (He.ga K "BadSteps") false), (kUnd K (He.ga K "BadText") (He.ga K "BadHistory") false), (kUnd K (He.ga K "BadText") (He.ga K "BadRow") false), (kUnd K (He.ga K "BadSide") (He.ga K "HouseError") true), (kUnd K (He.ga K "BadSide") (He.ga K "BadProgram") false), (kUnd K (He.ga K "BadSide") (He.ga K "BadText") false), (kUnd K (He.ga K "BadSide") (He.ga K "BadSide") true), (kUnd K (He.ga K "BadSide") (He.ga K "BadSteps") false), (kUnd K (He.ga K "BadSide") (He.ga K "BadHistory") false), (kUnd K (He.ga K "BadSide") (He.ga K "BadRow") false), (kUnd K (He.ga K "BadSteps") (He.ga K "HouseError") true), (kUnd K (He.ga K "BadSteps") (He.ga K "BadProgram") false), (kUnd K (He.ga K "BadSteps") (He.ga K "BadText") false), (kUnd K (He.ga K "BadSteps") (He.ga K "BadSide") false), (kUnd K (He.ga K "BadSteps") (He.ga K "BadSteps") true), (kUnd K (He.ga K "BadSteps") (He.ga K "BadHistory") false), (kUnd K (He.ga K "BadSteps") (He.ga K "BadRow") false), (kUnd K (He.ga K "BadHistory") (He.ga K "HouseError") true), (kUnd K (He.ga K "BadHistory") (He.ga K "BadProgram") false), (kUnd K (He.ga K "BadHistory") (He.ga K "BadText") false), (kUnd K (He.ga K "BadHistory") (He.ga K "BadSide") false), (kUnd K (He.ga K "BadHistory") (He.ga K "BadSteps") false), (kUnd K (He.ga K "BadHistory") (He.ga K "BadHistory") true), (kUnd K (He.ga K "BadHistory") (He.ga K "BadRow") false), (kUnd K (He.ga K "BadRow") (He.ga K "HouseError") true), (kUnd K (He.ga K "BadRow") (He.ga K "BadProgram") false), (kUnd K (He.ga K "BadRow") (He.ga K "BadText") false), (kUnd K (He.ga K "BadRow") (He.ga K "BadSide") false)] : List Bool) ++ ([(kUnd K (He.ga K "BadRow") (He.ga K "BadSteps") false), (kUnd K (He.ga K "BadRow") (He.ga K "BadHistory") false), (kUnd K (He.ga K "BadRow") (He.ga K "BadRow") true)] : List Bool)
def ex (K : PySem.W.Frag) : Bool := (exs K).all id
abbrev R : PySem.W.OpenRow := PySem.W.OpenLaw.row PySem.Challenge.rw_neithertells_k07_assembled
abbrev hk : PySem.W.Hook := He.hookX 5 fa fn ts [] ex
def ob (s : PySem.W.SharedT) : He.AlX := He.obsX 5 fa fn ts [] ex (HandSHeadRun.getT s)
theorem ob_eq (s : PySem.W.SharedT) : ob s = hk.obs s.abs := He.obsX_eq (HandSHeadRun.getT_eq s)
def looseN : List Str := (["__name__", "HouseError", "BadProgram", "BadText", "BadSide", "BadSteps", "BadHistory", "BadRow", "MOST_STATEMENTS", "MOST_DEPTH", "LONGEST_WAIT", "SIZE", "VARIABLES", "COMPARISONS", "DIRECTIONS", "WORDS", "BODIES", "is_integer", "is_one_of", "is_value", "is_term", "is_condition", "is_set", "is_add", "is_wait", "is_ask", "is_answer", "is_one_term", "CHECKS", "count_block"] : List Str) ++ (["count_statement", "count_body", "is_program", "check_program", "place_if", "place_while", "BLOCKS", "place_body", "assemble", "_law_bag", "_law_draw", "_law_large", "_law_steps", "_law_term", "_law_condition", "_law_simple", "_law_statement", "_law_body", "_law_program", "_law_kind", "_law_whole", "_law_code", "_law_is_term", "_law_is_variable", "_law_is_condition", "_law_is_simple", "_law_count_one", "_law_count", "_law_is_program", "_law_odd"] : List Str) ++ (["_law_spoilt", "_law_refused", "_law_right"] : List Str)
theorem run (w : World) : HandSHeadRun.RunEq R (PySem.W.view R.prog [66]) hk ob 8000 looseN w := PySem.W.byRow2 "special-get-raises" (P := fun w => HandSHeadRun.RunEq R (PySem.W.view R.prog [66]) hk ob 8000 looseN w) (fun w => by intro os; kernel_rfl) (fun w => by intro os; kernel_rfl) w
theorem ex_at {K : PySem.W.Frag} (h : ex K = true) (i : Nat) {b : Bool} (e : (exs K)[i]? = some b := by rfl) : b = true := by
  have h1 := List.all_eq_true.mp h b (List.mem_of_getElem? e)
  exact h1
theorem txt_mk {w : World} {K : PySem.W.Frag} {h : Heap} {mg : Str → Option Value} (X : K.In h) (G : h.Ns mainGlobals mg) (c : He.SaysX fa fn ts [] ex w h K) : Txt w K mg where
  m_ValueError := He.free_ok X G (c.t.d.fact 0)
  m_len := He.free_ok X G (c.t.d.fact 1)
  m_range := He.free_ok X G (c.t.d.fact 2)
  m_tuple := He.free_ok X G (c.t.d.fact 3)
  m_isinstance := He.free_ok X G (c.t.d.fact 4)
  m_str := He.free_ok X G (c.t.d.fact 5)
  m_sum := He.free_ok X G (c.t.d.fact 6)
  m_int := He.free_ok X G (c.t.d.fact 7)
  m_abs := He.free_ok X G (c.t.d.fact 8)
  m_list := He.free_ok X G (c.t.d.fact 9)
  m_max := He.free_ok X G (c.t.d.fact 10)
  m_bool := He.free_ok X G (c.t.d.fact 11)
  m_min := He.free_ok X G (c.t.d.fact 12)
  c_MOST_STATEMENTS := He.int_ok X G (c.t.d.fact 13)
  c_MOST_DEPTH := He.int_ok X G (c.t.d.fact 14)
  c_LONGEST_WAIT := He.int_ok X G (c.t.d.fact 15)
  c_SIZE := He.int_ok X G (c.t.d.fact 16)
  g_VARIABLES := He.glo_ok X G (c.t.d.fact 17)
  t_VARIABLES := kTup_ok (ex_at c.more 0 (b := (kTup K (He.ga K "VARIABLES") [.str "a", .str "b"])) rfl)
  g_COMPARISONS := He.glo_ok X G (c.t.d.fact 18)
  t_COMPARISONS := kTup_ok (ex_at c.more 1 (b := (kTup K (He.ga K "COMPARISONS") [.str "==", .str "!=", .str "<"])) rfl)
  g_DIRECTIONS := He.glo_ok X G (c.t.d.fact 19)
  t_DIRECTIONS := kTup_ok (ex_at c.more 2 (b := (kTup K (He.ga K "DIRECTIONS") [.str "+", .str "-", .str "="])) rfl)
  g_WORDS := He.glo_ok X G (c.t.d.fact 20)
  d_WORDS := kTab_ok (ex_at c.more 3 (b := (kTab K (He.ga K "WORDS") [("teller", .adr (tabAt "WORDS" "teller")), ("collector", .adr (tabAt "WORDS" "collector"))])) rfl) (c.t.tab 0 (t := (fun K => He.ga K "WORDS", ["teller", "collector"])) rfl)
  t_WORDS_teller := kTup_ok (ex_at c.more 4 (b := (kTup K (tabAt "WORDS" "teller" K) [.str "set", .str "add", .str "wait", .str "ask", .str "answer"])) rfl)
  t_WORDS_collector := kTup_ok (ex_at c.more 5 (b := (kTup K (tabAt "WORDS" "collector" K) [.str "set", .str "add", .str "wait", .str "grow", .str "list"])) rfl)
  g_BODIES := He.glo_ok X G (c.t.d.fact 21)
  d_BODIES := kTab_ok (ex_at c.more 6 (b := (kTab K (He.ga K "BODIES") [("if", .int 2), ("while", .int 1)])) rfl) (c.t.tab 1 (t := (fun K => He.ga K "BODIES", ["if", "while"])) rfl)
  g_CHECKS := He.glo_ok X G (c.t.d.fact 22)
  d_CHECKS := kTab_ok (ex_at c.more 7 (b := (kTab K (He.ga K "CHECKS") [("set", .glo "is_set"), ("add", .glo "is_add"), ("wait", .glo "is_wait"), ("ask", .glo "is_ask"), ("answer", .glo "is_answer"), ("grow", .glo "is_one_term"), ("list", .glo "is_one_term")])) rfl) (c.t.tab 2 (t := (fun K => He.ga K "CHECKS", ["set", "add", "wait", "ask", "answer", "grow", "list"])) rfl)
  g_BLOCKS := He.glo_ok X G (c.t.d.fact 23)
  d_BLOCKS := kTab_ok (ex_at c.more 8 (b := (kTab K (He.ga K "BLOCKS") [("if", .glo "place_if"), ("while", .glo "place_while")])) rfl) (c.t.tab 3 (t := (fun K => He.ga K "BLOCKS", ["if", "while"])) rfl)
  g_is_integer := He.glo_ok X G (c.t.d.fact 24)
  F_is_integer := c.t.d.def_ 0 (d := d_is_integer) rfl
  g_is_one_of := He.glo_ok X G (c.t.d.fact 25)
  F_is_one_of := c.t.d.def_ 1 (d := d_is_one_of) rfl
  g_is_value := He.glo_ok X G (c.t.d.fact 26)
  F_is_value := c.t.d.def_ 2 (d := d_is_value) rfl
  g_is_term := He.glo_ok X G (c.t.d.fact 27)
  F_is_term := c.t.d.def_ 3 (d := d_is_term) rfl
  g_is_condition := He.glo_ok X G (c.t.d.fact 28)
  F_is_condition := c.t.d.def_ 4 (d := d_is_condition) rfl
  g_is_set := He.glo_ok X G (c.t.d.fact 29)
  F_is_set := c.t.d.def_ 5 (d := d_is_set) rfl
  g_is_add := He.glo_ok X G (c.t.d.fact 30)
  F_is_add := c.t.d.def_ 6 (d := d_is_add) rfl
  g_is_wait := He.glo_ok X G (c.t.d.fact 31)
  F_is_wait := c.t.d.def_ 7 (d := d_is_wait) rfl
  g_is_ask := He.glo_ok X G (c.t.d.fact 32)
  F_is_ask := c.t.d.def_ 8 (d := d_is_ask) rfl
  g_is_answer := He.glo_ok X G (c.t.d.fact 33)
  F_is_answer := c.t.d.def_ 9 (d := d_is_answer) rfl
  g_is_one_term := He.glo_ok X G (c.t.d.fact 34)
  F_is_one_term := c.t.d.def_ 10 (d := d_is_one_term) rfl
  g_count_block := He.glo_ok X G (c.t.d.fact 35)
  F_count_block := c.t.d.def_ 11 (d := d_count_block) rfl
  g_count_statement := He.glo_ok X G (c.t.d.fact 36)
  F_count_statement := c.t.d.def_ 12 (d := d_count_statement) rfl
  g_count_body := He.glo_ok X G (c.t.d.fact 37)
  F_count_body := c.t.d.def_ 13 (d := d_count_body) rfl
  g_is_program := He.glo_ok X G (c.t.d.fact 38)
  F_is_program := c.t.d.def_ 14 (d := d_is_program) rfl
  g_check_program := He.glo_ok X G (c.t.d.fact 39)
  F_check_program := c.t.d.def_ 15 (d := d_check_program) rfl
  g_place_if := He.glo_ok X G (c.t.d.fact 40)
  F_place_if := c.t.d.def_ 16 (d := d_place_if) rfl
  g_place_while := He.glo_ok X G (c.t.d.fact 41)
  F_place_while := c.t.d.def_ 17 (d := d_place_while) rfl
  g_place_body := He.glo_ok X G (c.t.d.fact 42)
  F_place_body := c.t.d.def_ 18 (d := d_place_body) rfl
  g_assemble := He.glo_ok X G (c.t.d.fact 43)
  F_assemble := c.t.d.def_ 19 (d := d_assemble) rfl
  g__law_bag := He.glo_ok X G (c.t.d.fact 44)
  F__law_bag := c.t.d.def_ 20 (d := d__law_bag) rfl
  g__law_draw := He.glo_ok X G (c.t.d.fact 45)
  F__law_draw := c.t.d.def_ 21 (d := d__law_draw) rfl
  g__law_large := He.glo_ok X G (c.t.d.fact 46)
  F__law_large := c.t.d.def_ 22 (d := d__law_large) rfl
  g__law_steps := He.glo_ok X G (c.t.d.fact 47)
  F__law_steps := c.t.d.def_ 23 (d := d__law_steps) rfl
  g__law_term := He.glo_ok X G (c.t.d.fact 48)
  F__law_term := c.t.d.def_ 24 (d := d__law_term) rfl
  g__law_condition := He.glo_ok X G (c.t.d.fact 49)
  F__law_condition := c.t.d.def_ 25 (d := d__law_condition) rfl
  g__law_simple := He.glo_ok X G (c.t.d.fact 50)
  F__law_simple := c.t.d.def_ 26 (d := d__law_simple) rfl
  g__law_statement := He.glo_ok X G (c.t.d.fact 51)
  F__law_statement := c.t.d.def_ 27 (d := d__law_statement) rfl
  g__law_body := He.glo_ok X G (c.t.d.fact 52)
  F__law_body := c.t.d.def_ 28 (d := d__law_body) rfl
  g__law_program := He.glo_ok X G (c.t.d.fact 53)
  F__law_program := c.t.d.def_ 29 (d := d__law_program) rfl
  g__law_kind := He.glo_ok X G (c.t.d.fact 54)
  F__law_kind := c.t.d.def_ 30 (d := d__law_kind) rfl
  g__law_whole := He.glo_ok X G (c.t.d.fact 55)
  F__law_whole := c.t.d.def_ 31 (d := d__law_whole) rfl
  g__law_code := He.glo_ok X G (c.t.d.fact 56)
  F__law_code := c.t.d.def_ 32 (d := d__law_code) rfl
  g__law_is_term := He.glo_ok X G (c.t.d.fact 57)
  F__law_is_term := c.t.d.def_ 33 (d := d__law_is_term) rfl
  g__law_is_variable := He.glo_ok X G (c.t.d.fact 58)
  F__law_is_variable := c.t.d.def_ 34 (d := d__law_is_variable) rfl
  g__law_is_condition := He.glo_ok X G (c.t.d.fact 59)
  F__law_is_condition := c.t.d.def_ 35 (d := d__law_is_condition) rfl
  g__law_is_simple := He.glo_ok X G (c.t.d.fact 60)
  F__law_is_simple := c.t.d.def_ 36 (d := d__law_is_simple) rfl
  g__law_count_one := He.glo_ok X G (c.t.d.fact 61)
  F__law_count_one := c.t.d.def_ 37 (d := d__law_count_one) rfl
  g__law_count := He.glo_ok X G (c.t.d.fact 62)
  F__law_count := c.t.d.def_ 38 (d := d__law_count) rfl
  g__law_is_program := He.glo_ok X G (c.t.d.fact 63)
  F__law_is_program := c.t.d.def_ 39 (d := d__law_is_program) rfl
  g__law_odd := He.glo_ok X G (c.t.d.fact 64)
  F__law_odd := c.t.d.def_ 40 (d := d__law_odd) rfl
  g__law_spoilt := He.glo_ok X G (c.t.d.fact 65)
  F__law_spoilt := c.t.d.def_ 41 (d := d__law_spoilt) rfl
  g__law_refused := He.glo_ok X G (c.t.d.fact 66)
  F__law_refused := c.t.d.def_ 42 (d := d__law_refused) rfl
  g__law_right := He.glo_ok X G (c.t.d.fact 67)
  F__law_right := c.t.d.def_ 43 (d := d__law_right) rfl
  g_law := He.glo_ok X G (c.t.d.fact 68)
  F_law := c.t.d.def_ 44 (d := d_law) rfl
  g_HouseError := He.glo_ok X G (c.t.d.fact 69)
  g_BadProgram := He.glo_ok X G (c.t.d.fact 70)
  g_BadText := He.glo_ok X G (c.t.d.fact 71)
  g_BadSide := He.glo_ok X G (c.t.d.fact 72)
  g_BadSteps := He.glo_ok X G (c.t.d.fact 73)
  g_BadHistory := He.glo_ok X G (c.t.d.fact 74)
  g_BadRow := He.glo_ok X G (c.t.d.fact 75)
  x_HouseError := kExc_ok (ex_at c.more 9 (b := (kExc K (He.ga K "HouseError") ve "ValueError.__new__")) rfl)
  x_BadProgram := kExc_ok (ex_at c.more 10 (b := (kExc K (He.ga K "BadProgram") ve "ValueError.__new__")) rfl)
  x_BadSide := kExc_ok (ex_at c.more 11 (b := (kExc K (He.ga K "BadSide") ve "ValueError.__new__")) rfl)
  x_BadSteps := kExc_ok (ex_at c.more 12 (b := (kExc K (He.ga K "BadSteps") ve "ValueError.__new__")) rfl)
  x_BadRow := kExc_ok (ex_at c.more 13 (b := (kExc K (He.ga K "BadRow") ve "ValueError.__new__")) rfl)
  u_HouseError_HouseError := kUnd_ok (ex_at c.more 14 (b := (kUnd K (He.ga K "HouseError") (He.ga K "HouseError") true)) rfl)
  u_HouseError_BadProgram := kUnd_ok (ex_at c.more 15 (b := (kUnd K (He.ga K "HouseError") (He.ga K "BadProgram") false)) rfl)
  u_HouseError_BadText := kUnd_ok (ex_at c.more 16 (b := (kUnd K (He.ga K "HouseError") (He.ga K "BadText") false)) rfl)
  u_HouseError_BadSide := kUnd_ok (ex_at c.more 17 (b := (kUnd K (He.ga K "HouseError") (He.ga K "BadSide") false)) rfl)
  u_HouseError_BadSteps := kUnd_ok (ex_at c.more 18 (b := (kUnd K (He.ga K "HouseError") (He.ga K "BadSteps") false)) rfl)
  u_HouseError_BadHistory := kUnd_ok (ex_at c.more 19 (b := (kUnd K (He.ga K "HouseError") (He.ga K "BadHistory") false)) rfl)
  u_HouseError_BadRow := kUnd_ok (ex_at c.more 20 (b := (kUnd K (He.ga K "HouseError") (He.ga K "BadRow") false)) rfl)
  u_BadProgram_HouseError := kUnd_ok (ex_at c.more 21 (b := (kUnd K (He.ga K "BadProgram") (He.ga K "HouseError") true)) rfl)
  u_BadProgram_BadProgram := kUnd_ok (ex_at c.more 22 (b := (kUnd K (He.ga K "BadProgram") (He.ga K "BadProgram") true)) rfl)
  u_BadProgram_BadText := kUnd_ok (ex_at c.more 23 (b := (kUnd K (He.ga K "BadProgram") (He.ga K "BadText") false)) rfl)
  u_BadProgram_BadSide := kUnd_ok (ex_at c.more 24 (b := (kUnd K (He.ga K "BadProgram") (He.ga K "BadSide") false)) rfl)
  u_BadProgram_BadSteps := kUnd_ok (ex_at c.more 25 (b := (kUnd K (He.ga K "BadProgram") (He.ga K "BadSteps") false)) rfl)
  u_BadProgram_BadHistory := kUnd_ok (ex_at c.more 26 (b := (kUnd K (He.ga K "BadProgram") (He.ga K "BadHistory") false)) rfl)
  u_BadProgram_BadRow := kUnd_ok (ex_at c.more 27 (b := (kUnd K (He.ga K "BadProgram") (He.ga K "BadRow") false)) rfl)
  u_BadText_HouseError := kUnd_ok (ex_at c.more 28 (b := (kUnd K (He.ga K "BadText") (He.ga K "HouseError") true)) rfl)
  u_BadText_BadProgram := kUnd_ok (ex_at c.more 29 (b := (kUnd K (He.ga K "BadText") (He.ga K "BadProgram") false)) rfl)
  u_BadText_BadText := kUnd_ok (ex_at c.more 30 (b := (kUnd K (He.ga K "BadText") (He.ga K "BadText") true)) rfl)
  u_BadText_BadSide := kUnd_ok (ex_at c.more 31 (b := (kUnd K (He.ga K "BadText") (He.ga K "BadSide") false)) rfl)
  u_BadText_BadSteps := kUnd_ok (ex_at c.more 32 (b := (kUnd K (He.ga K "BadText") (He.ga K "BadSteps") false)) rfl)
  u_BadText_BadHistory := kUnd_ok (ex_at c.more 33 (b := (kUnd K (He.ga K "BadText") (He.ga K "BadHistory") false)) rfl)
  u_BadText_BadRow := kUnd_ok (ex_at c.more 34 (b := (kUnd K (He.ga K "BadText") (He.ga K "BadRow") false)) rfl)
  u_BadSide_HouseError := kUnd_ok (ex_at c.more 35 (b := (kUnd K (He.ga K "BadSide") (He.ga K "HouseError") true)) rfl)
  u_BadSide_BadProgram := kUnd_ok (ex_at c.more 36 (b := (kUnd K (He.ga K "BadSide") (He.ga K "BadProgram") false)) rfl)
  u_BadSide_BadText := kUnd_ok (ex_at c.more 37 (b := (kUnd K (He.ga K "BadSide") (He.ga K "BadText") false)) rfl)
  u_BadSide_BadSide := kUnd_ok (ex_at c.more 38 (b := (kUnd K (He.ga K "BadSide") (He.ga K "BadSide") true)) rfl)
  u_BadSide_BadSteps := kUnd_ok (ex_at c.more 39 (b := (kUnd K (He.ga K "BadSide") (He.ga K "BadSteps") false)) rfl)
  u_BadSide_BadHistory := kUnd_ok (ex_at c.more 40 (b := (kUnd K (He.ga K "BadSide") (He.ga K "BadHistory") false)) rfl)
  u_BadSide_BadRow := kUnd_ok (ex_at c.more 41 (b := (kUnd K (He.ga K "BadSide") (He.ga K "BadRow") false)) rfl)
  u_BadSteps_HouseError := kUnd_ok (ex_at c.more 42 (b := (kUnd K (He.ga K "BadSteps") (He.ga K "HouseError") true)) rfl)
  u_BadSteps_BadProgram := kUnd_ok (ex_at c.more 43 (b := (kUnd K (He.ga K "BadSteps") (He.ga K "BadProgram") false)) rfl)
  u_BadSteps_BadText := kUnd_ok (ex_at c.more 44 (b := (kUnd K (He.ga K "BadSteps") (He.ga K "BadText") false)) rfl)
  u_BadSteps_BadSide := kUnd_ok (ex_at c.more 45 (b := (kUnd K (He.ga K "BadSteps") (He.ga K "BadSide") false)) rfl)
  u_BadSteps_BadSteps := kUnd_ok (ex_at c.more 46 (b := (kUnd K (He.ga K "BadSteps") (He.ga K "BadSteps") true)) rfl)
  u_BadSteps_BadHistory := kUnd_ok (ex_at c.more 47 (b := (kUnd K (He.ga K "BadSteps") (He.ga K "BadHistory") false)) rfl)
  u_BadSteps_BadRow := kUnd_ok (ex_at c.more 48 (b := (kUnd K (He.ga K "BadSteps") (He.ga K "BadRow") false)) rfl)
  u_BadHistory_HouseError := kUnd_ok (ex_at c.more 49 (b := (kUnd K (He.ga K "BadHistory") (He.ga K "HouseError") true)) rfl)
  u_BadHistory_BadProgram := kUnd_ok (ex_at c.more 50 (b := (kUnd K (He.ga K "BadHistory") (He.ga K "BadProgram") false)) rfl)
  u_BadHistory_BadText := kUnd_ok (ex_at c.more 51 (b := (kUnd K (He.ga K "BadHistory") (He.ga K "BadText") false)) rfl)
  u_BadHistory_BadSide := kUnd_ok (ex_at c.more 52 (b := (kUnd K (He.ga K "BadHistory") (He.ga K "BadSide") false)) rfl)
  u_BadHistory_BadSteps := kUnd_ok (ex_at c.more 53 (b := (kUnd K (He.ga K "BadHistory") (He.ga K "BadSteps") false)) rfl)
  u_BadHistory_BadHistory := kUnd_ok (ex_at c.more 54 (b := (kUnd K (He.ga K "BadHistory") (He.ga K "BadHistory") true)) rfl)
  u_BadHistory_BadRow := kUnd_ok (ex_at c.more 55 (b := (kUnd K (He.ga K "BadHistory") (He.ga K "BadRow") false)) rfl)
  u_BadRow_HouseError := kUnd_ok (ex_at c.more 56 (b := (kUnd K (He.ga K "BadRow") (He.ga K "HouseError") true)) rfl)
  u_BadRow_BadProgram := kUnd_ok (ex_at c.more 57 (b := (kUnd K (He.ga K "BadRow") (He.ga K "BadProgram") false)) rfl)
  u_BadRow_BadText := kUnd_ok (ex_at c.more 58 (b := (kUnd K (He.ga K "BadRow") (He.ga K "BadText") false)) rfl)
  u_BadRow_BadSide := kUnd_ok (ex_at c.more 59 (b := (kUnd K (He.ga K "BadRow") (He.ga K "BadSide") false)) rfl)
  u_BadRow_BadSteps := kUnd_ok (ex_at c.more 60 (b := (kUnd K (He.ga K "BadRow") (He.ga K "BadSteps") false)) rfl)
  u_BadRow_BadHistory := kUnd_ok (ex_at c.more 61 (b := (kUnd K (He.ga K "BadRow") (He.ga K "BadHistory") false)) rfl)
  u_BadRow_BadRow := kUnd_ok (ex_at c.more 62 (b := (kUnd K (He.ga K "BadRow") (He.ga K "BadRow") true)) rfl)
end Nt

open PySem PySem.W PySem.Calls PyProof.Rows
set_option maxRecDepth 100000 in
set_option maxHeartbeats 0 in
theorem PySem.Challenge.cw_neithertells_k07_assembled_holds : PySem.Challenge.rw_neithertells_k07_assembled.Holds := by
  w_on; o_law
  refine HandSHeadRun.head_any (r := PySem.W.OpenLaw.row PySem.Challenge.rw_neithertells_k07_assembled) (q := view (PySem.W.OpenLaw.row PySem.Challenge.rw_neithertells_k07_assembled).prog [66]) (H := Nt.hk) (ob := Nt.ob) (M := 8000) (loose := Nt.looseN) (d := HandSHeadRun.topDef (PySem.W.OpenLaw.row PySem.Challenge.rw_neithertells_k07_assembled).prog 66) (kwd := []) Nt.ob_eq
    (by kernel_rfl) (fun s => by kernel_rfl) Nt.run (by kernel_rfl) (by kernel_rfl) (by kernel_rfl) (by rfl) (by first | assumption | decide +kernel) (by decide +kernel) ⟨rfl, rfl, rfl, rfl, rfl, by decide +kernel⟩ ?hw ?hc
  case hw => w_witness2
  case hc =>
    refine L2.walk_ofE (l := PySem.Challenge.rw_neithertells_k07_assembled) (n := 63) (k := 21) (x := "_law_script") (CX := L2.CX0) rfl (by decide) (by kernel_rfl) ⟨rfl, by decide, by decide⟩ ?F (fun _ _ _ _ z => z)
    intro w mg fa h Y G hmg0
    obtain ⟨K, KX, c⟩ := Y
    have hmg : mg ("law" : PySem.Str) = some (.ref fa) := by
      have e : (HandSHeadRun.topDef (PySem.W.OpenLaw.row PySem.Challenge.rw_neithertells_k07_assembled).prog 66).name = ("law" : PySem.Str) := by kernel_rfl
      rw [← e]
      exact hmg0
    have T := Nt.txt_mk KX G c
    obtain ⟨fd, F⟩ := T.F_law
    have e := hmg.symm.trans T.g_law
    cases e
    have b := L2.FunD.bindsA (ps := ["_law_script"]) F fun _ _ _ _ _ _ us hl => match us, hl with | [_], _ => rfl
    exact ⟨K, fd, Nt.spLaw K, KX, fun s v => b s [v] rfl, fun H a ns hl _ hS => ⟨a, ns, rfl, hS, hl, fun _ => rfl⟩, fun base _ _ => Nt.ok_law T F⟩
