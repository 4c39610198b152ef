import PyProof.Rows.All
import Wide.All
import OpenK.AllK
import Wide.FinOn
import KE.KUnpackStar
import HandS.ForMost
import HandS.ForExc
import HandS.Evl
import HandS.IsInst
import HandS.CallLocal
import HandS.Defaults
import HandS.TupAny
import HandS.TupLe
import HandS.Flow
import HandS.Head0
import HandS.Head1
import HandS.Head2
import HandS.HeadEnd
import HandS.HeadHook1
import HandS.HeadHook2
import HandS.HeadHook3
import HandS.HeadHook4
import HandS.NoneIn
import PySem.Challenge.RW_neithertells_k02_programs_at_their_bound
set_option Elab.async false
set_option linter.all false
set_option maxRecDepth 100000
set_option maxHeartbeats 4000000

namespace Nt
open PySem PySem.Spec PyProof.Rows L2
/-! ### a def behind its name -/
structure Def (P : Program) (w : World) (K : PySem.W.Frag) (mg : Str → Option Value) (base : Heap) (CX : CXT) (k : Nat) (x : Str) (ps : List Str) (sp : Sp) : Prop where
  ex : ∃ (f : Addr) (fd : FuncData), mg x = some (.ref f) ∧ PySem.W.keepIn K (.ref f) = true ∧ Binds K fd ps [] ∧ FnOk P w K mg base CX k f fd ps sp
theorem Def.mono {P : Program} {w : World} {K : PySem.W.Frag} {mg : Str → Option Value} {base : Heap} {CX : CXT} {j k : Nat} {x : Str} {ps : List Str} {sp : Sp} (D : Def P w K mg base CX j x ps sp) (h : j ≤ k) : Def P w K mg base CX k x ps sp := by
  obtain ⟨f, fd, h1, h2, h3, h4⟩ := D.ex
  exact ⟨f, fd, h1, h2, h3, h4.mono h⟩
section
variable {X : Cx} {CX : CXT} {k : Nat} {ps : List Str} {sp : Sp} {E : XK} {x : Str} {p pos : Pos} {e : Expr} {es : List Expr} {t : TA}
theorem pe_callD (D : Def X.prog X.w X.K X.mg X.base CX k x ps sp) (hr : Room k X.A) (hg : Gl X x) (hx : Passes CX X E) (ha : PA X (e :: es) t) (hdb : (x == ("__debug__" : Str)) = false := by decide)
    (he : starEach (e :: es) X.env = (false, eval e X.env) :: starEach es X.env := by rfl) (hpl : (backTo pos (starEach es X.env)).any (·.1) = false := by rfl) :
    PE X (.Call (.Name x p) (e :: es) [] pos) (tCall sp [] E t) := by
  obtain ⟨f, fd, h1, h2, h3, h4⟩ := D.ex
  exact pe_call h4 hr hg h1 h2 h3 .nil hx ha hdb he hpl
theorem pe_gint {i : Int} (hg : Gl X x) (hm : ∃ t, X.mg x = some (.int i t)) (hd : (x == ("__debug__" : Str)) = false := by decide) : PE X (.Name x pos) (tC (.int i)) := by
  obtain ⟨t, h⟩ := hm
  exact pe_glob hg h ⟨t, rfl⟩ hd
theorem pe_gref {a : Addr} (hg : Gl X x) (hm : X.mg x = some (.ref a)) (hd : (x == ("__debug__" : Str)) = false := by decide) : PE X (.Name x pos) (tC (.ref a)) := pe_glob hg hm rfl hd
theorem pe_gstr {z : Str} (hg : Gl X x) (hm : ∃ t, X.mg x = some (.str z t)) (hd : (x == ("__debug__" : Str)) = false := by decide) : PE X (.Name x pos) (tC (.str z)) := by
  obtain ⟨t, h⟩ := hm
  exact pe_glob hg h ⟨t, rfl⟩ hd
end
/-! ### word, *parts = a tuple -/
section
variable {X : Cx} {pos : Pos}
def gStar (K : PySem.W.Frag) (n i : Nat) (t : TGs) : TG := fun v σ H Q => ∃ a xs, v = .ref a ∧ SqT K H a xs ∧ n ≤ xs.length + 1 ∧ i < n ∧
  ∀ p, H p = none → t (xs.take i ++ [.ref p] ++ (xs.drop i).drop (xs.length + 1 - n)) σ (upd H p (.lst ((xs.drop i).take (xs.length + 1 - n)))) Q
theorem pg_star {es : List Expr} {k : Nat} {t : TGs} {n i : Nat} (hc : X.calm = true) (h : PGs X es t)
    (hlen : (assignEach es X.env).length = n := by rfl) (hstar : (assignEach es X.env).findIdx? (·.1) = some i := by rfl) : PG X (.Tuple es k pos) (gStar X.K n i t) := by
  refine ⟨fun pins s σ H v u Q I r hw => ?_⟩
  obtain ⟨a, xs, e1, hq, hn, hi, hw⟩ := hw
  subst e1
  cases r
  obtain ⟨its, rv, hl, hz⟩ := I.tuple hq
  have hxl : xs.length = its.length := rv.length
  have hh := I.ok.hd hc
  have hlt : a ≠ s.heap.objs.size := by obtain ⟨o, ho, _⟩ := hl; exact Nat.ne_of_lt (Heap.lt_size ho)
  have hsz : its.toArray.size = its.length := by simp
  rw [PyProof.Rows.assign_Tuple]
  refine wpAny_bind (wpAny_standAt ?_)
  unfold unpack
  rw [hlen, hstar]
  refine wpAny_bind (wpAny_holding ?_)
  unfold unpackItems
  refine wpAny_bind ?_
  unfold notIterableAtAll
  refine wpAny_bind (wpAny_specialOf hl.typeIs slot_tuple_iter.lookup ?_)
  refine wpAny_pure ?_
  simp only [Bool.false_eq_true, if_false]
  refine wpAny_bind (wpAny_holding (iter_tuple hl ?_))
  refine wpAny_bind (wpAny_holding (draw_tuple hlt i 0 _ _ ⟨_, Heap.get?_push_size _ rfl, rfl, rfl⟩ (hl.push _) (by omega) fun h₁ hit₁ hs₁ => ?_))
  have hl₁ : IsTup h₁ a its.toArray := (hl.push _).extBut hs₁.extBut hlt
  rw [Nat.zero_add] at hit₁
  have hit₁' := hit₁
  obtain ⟨oi, hoi, _⟩ := hit₁'
  have hl₁' := hl₁
  obtain ⟨ol, hol, _⟩ := hl₁'
  rw [List.drop_zero]
  have hfl : (its.toArray.toList.take i).length = i := by rw [List.length_take, Array.length_toList]; omega
  rw [if_neg (show ¬ ((its.toArray.toList.take i).length < i) by rw [hfl]; omega)]
  refine wpAny_bind (wpAny_holding (PySem.W.kun_collect (s := { s with heap := h₁ }) (T := "tuple_iterator") (.inr (.inr (.inr rfl))) (Walks.tuple (A := X.A.in1) hh s.heap.objs.size a hlt its.toArray) (fun j u st => st.1.typeIs) (k := i) (by omega) ⟨hit₁, hl₁⟩ (Heap.lt_size hoi) (Heap.lt_size hol) (fun h₂ tk hk => ?_) (by omega)))
  have hrl : (its.toArray.toList.drop i).length = its.length - i := by rw [List.length_drop, Array.length_toList, hsz]
  have hmid : (its.toArray.toList.drop i).length - (n - 1 - i) = xs.length + 1 - n := by rw [hrl]; omega
  show wpAny _ _ (if (its.toArray.toList.drop i).length < n - 1 - i then _ else _) _ _ _
  rw [if_neg (by rw [hrl]; omega)]
  show wpAny _ _ (newList ((its.toArray.toList.drop i).take ((its.toArray.toList.drop i).length - (n - 1 - i))) >>= fun d => pure (its.toArray.toList.take i ++ [d] ++ (its.toArray.toList.drop i).drop ((its.toArray.toList.drop i).length - (n - 1 - i)))) _ _ _
  rw [hmid]
  have he : Heap.ExtBut s.heap.objs.size s.heap h₂ := fun b o hb e => hk b o hb (hs₁.extBut b o hb (Heap.get?_push_of_some _ e))
  have I1 : Inv X pins σ H { s with heap := h₂, toks := tk } := I.kept (t' := tk) fun b o e => he b o (Nat.ne_of_lt (Heap.lt_size e)) e
  have htl : its.toArray.toList = its := by simp
  rw [htl]
  refine wpAny_bind (wpAny_newList ?_ ?_)
  · refine wpAny_pure ?_
    have hf : H h₂.objs.size = none := I1.hok.fresh (Nat.le_refl _)
    have I2 := I1.laid (a := h₂.objs.size) (o := .lst ((xs.drop i).take (xs.length + 1 - n))) (h' := h₂.push { cls := .type "list", data := .seq ((its.drop i).take (xs.length + 1 - n)).toArray }) (t' := tk) (fun b u e => Heap.get?_push_of_some _ e) (Nat.le_refl _)
      ⟨by rw [List.length_take, List.length_drop]; omega, _, 0, (rv.drop i).take _, Heap.get?_push_size _ rfl⟩
    exact h.run pins _ σ _ _ _ Q I2 (((rv.take i).append (.cons (show RelV (.ref h₂.objs.size) (.ref h₂.objs.size) from rfl) .nil)).append ((rv.drop i).drop _)) (hw _ hf)
  · rw [List.length_take, List.length_drop]; omega
theorem pgs_star {e : Expr} {p : Pos} {t : TG} (h1 : PG X e t) (hs : (assignEach [.Starred e p] X.env).map (·.2) = [assign e X.env] := by rfl) : PGs X [.Starred e p] (gCons t gNil) := by
  refine ⟨fun pins s σ H vs us Q I r h => ?_⟩
  obtain ⟨v, vr, e1, h⟩ := h
  subst e1
  cases r with
  | cons r rr =>
    rw [hs]
    have h2 := h1.run pins s σ H v _ (fun σ' H' => gNil vr σ' H' Q) I r h
    refine assignInOrder_cons (thn h2 fun _ s1 ⟨σ', H', I', q⟩ => ?_)
    exact pgs_nil.run pins s1 σ' H' vr _ Q I' rr q
end

/-! ### a def from its text -/
section
variable {P : Program} {w : World} {K : PySem.W.Frag} {mg : Str → Option Value} {base : Heap} {x qual : Str} {params : Arguments} {body : List Stmt} {scope : Scope}
theorem mkDef {CX : CXT} {N ps : List Str} {k : Nat} {sp : Sp} {f : Addr} (F : ∃ fd, FunD K x qual params body scope [] [] f fd) (g : mg x = some (.ref f)) (S : FnScope N ps scope)
    (hb : ∀ (kV doc pm : Value) (an : Option Addr) (cdv ct : Value) (us : List Value), us.length = ps.length → bindArgs (PySem.W.fnOf x qual params body scope .none kV doc pm an cdv ct) ⟨us, []⟩ = pure (ps.zip us))
    (len : ∀ vs H Q E, sp vs H Q E → vs.length = ps.length)
    (hbody : ∀ (cdv : Value) (A : Around) (outer : List Env) (s : Shared) (H : Hp) (vs : List V) (Q : VK) (E : XK), Room k (A.deeper (envOfC qual scope s.heap.objs.size f cdv)) → sp vs H Q E →
      ∃ t, PSs (cxOf CX P w K mg base N qual scope f cdv A outer s H E) body t ∧ t { nx := fun _ H' => Q .non H', rt := Q } (start N vs) H) : Def P w K mg base CX (k + 1) x ps sp := by
  obtain ⟨fd, F⟩ := F
  exact ⟨f, fd, g, F.kp, F.bindsN hb, F.ok S len hbody⟩
end
/-! ### a written dict with text keys -/
structure DTab (K : PySem.W.Frag) (w : World) (a : Addr) (kvs : List (Str × V)) : Prop where
  kd : ∃ es n, KDict K w a es n
  val : ∀ z v, kvs.lookup z = some v → ∃ u, PySem.W.nsIn K a z = some (some u) ∧ RelV v u
  no : ∀ z, kvs.lookup z = none → PySem.W.nsIn K a z = some none
section
variable {X : Cx} {d : Addr} {kvs : List (Str × V)}
def rInTab (d : Addr) (kvs : List (Str × V)) : R2 := fun x y H Q => ∃ z : Str, x = .str z ∧ y = .ref d ∧ Q (.bl (kvs.lookup z).isSome) H
def rNiTab (d : Addr) (kvs : List (Str × V)) : R2 := fun x y H Q => ∃ z : Str, x = .str z ∧ y = .ref d ∧ Q (.bl (!(kvs.lookup z).isSome)) H
def rIxTab (d : Addr) (kvs : List (Str × V)) : R2 := fun x y H Q => ∃ (z : Str) (v : V), x = .ref d ∧ y = .str z ∧ kvs.lookup z = some v ∧ Q v H
theorem op_in_tab (D : DTab X.K X.w d kvs) : OpR X (compareOp .In) (rInTab d kvs) := by
  intro pins s σ H x y v u Q I rx ry h
  obtain ⟨z, rfl, rfl, q⟩ := h
  obtain ⟨es, n, kd⟩ := D.kd
  refine op_in_kd kd pins s σ H _ _ v u Q I rx ry ?_
  cases e : kvs.lookup z with
  | none =>
    rw [e] at q
    exact ⟨z, none, rfl, rfl, D.no z e, q⟩
  | some v0 =>
    obtain ⟨u0, h1, _⟩ := D.val z v0 e
    rw [e] at q
    exact ⟨z, some u0, rfl, rfl, h1, q⟩
theorem op_ni_tab (D : DTab X.K X.w d kvs) : OpR X (compareOp .NotIn) (rNiTab d kvs) := by
  intro pins s σ H x y v u Q I rx ry h
  obtain ⟨z, rfl, rfl, q⟩ := h
  obtain ⟨es, n, kd⟩ := D.kd
  refine op_notIn_kd kd pins s σ H _ _ v u Q I rx ry ?_
  cases e : kvs.lookup z with
  | none =>
    rw [e] at q
    exact ⟨z, none, rfl, rfl, D.no z e, q⟩
  | some v0 =>
    obtain ⟨u0, h1, _⟩ := D.val z v0 e
    rw [e] at q
    exact ⟨z, some u0, rfl, rfl, h1, q⟩
theorem ix_tab (D : DTab X.K X.w d kvs) : IxR X (rIxTab d kvs) := by
  intro value slice pins s σ H x y v u Q I rx ry h hs
  obtain ⟨z, v0, rfl, rfl, e, q⟩ := h
  obtain ⟨es, n, kd⟩ := D.kd
  obtain ⟨u0, h1, h2⟩ := D.val z v0 e
  exact ix_kdict value slice pins s σ H _ _ v u Q I rx ry ⟨d, z, v0, rfl, rfl, ⟨es, n, u0, kd.at_, kd.lit, h1, h2⟩, q⟩ hs
end
/-- the table's check by K alone -/
def kTab (K : PySem.W.Frag) (a : Addr) (kvs : List (Str × He.Dv)) : Bool := match K.lookup a with
  | some ⟨_, _, .dict es _, _⟩ => go es.toList kvs
  | _ => false
where go : List DictEntry → List (Str × He.Dv) → Bool
  | [], [] => true
  | e :: es, q :: qs => (match e.key with
    | .str y _ => decide (y = q.1)
    | _ => false) && (He.relB (q.2.v K) e.val && go es qs)
  | _, _ => false
theorem kTab_go {K : PySem.W.Frag} (z : Str) : ∀ {es : List DictEntry} {kvs : List (Str × He.Dv)}, kTab.go K es kvs = true → es.any (·.refKey) = false ∧
    ((∃ v e, kvs.lookup z = some v ∧ es.find? (·.key.isStr z) = some e ∧ RelV (v.v K) e.val) ∨ (kvs.lookup z = none ∧ es.find? (·.key.isStr z) = none))
  | [], [], _ => ⟨rfl, .inr ⟨rfl, rfl⟩⟩
  | [], _ :: _, h => by cases h
  | _ :: _, [], h => by cases h
  | e :: es, q :: qs, h => by
    obtain ⟨h1, h2⟩ := He.ba (show ((match e.key with | .str y _ => decide (y = q.1) | _ => false) && (He.relB (q.2.v K) e.val && kTab.go K es qs)) = true from h)
    obtain ⟨h3, h4⟩ := He.ba h2
    obtain ⟨i1, i2⟩ := kTab_go (K := K) z h4
    obtain ⟨qk, qv⟩ := q
    cases ek : e.key with
    | str y t =>
      rw [ek] at h1
      have ey : y = qk := of_decide_eq_true h1
      refine ⟨?_, ?_⟩
      · rw [List.any_cons, i1]
        simp [DictEntry.refKey, ek]
      · rw [List.find?_cons, List.lookup_cons, ek]
        by_cases hz : z = qk
        · have e1 : (Value.str y t).isStr z = true := by rw [ey, hz]; simp [Value.isStr]
          have e2 : (z == qk) = true := by rw [hz]; simp
          rw [e1, e2]
          exact .inl ⟨qv, e, rfl, rfl, He.relB_ok h3⟩
        · have e1 : (Value.str y t).isStr z = false := by
            rw [ey]
            simp only [Value.isStr]
            cases hq : (qk == z) with
            | false => rfl
            | true => exact absurd (eq_of_beq hq).symm hz
          have e2 : (z == qk) = false := beq_eq_false_iff_ne.mpr hz
          rw [e1, e2]
          exact i2
    | _ =>
      rw [ek] at h1
      cases h1
theorem kTab_ok {K : PySem.W.Frag} {w : World} {a : Addr} {kvs : List (Str × He.Dv)} (h : kTab K a kvs = true) (kd : ∃ es n, KDict K w a es n) : DTab K w a (kvs.map fun q => (q.1, q.2.v K)) := by
  unfold kTab at h
  cases q : K.lookup a with
  | none => rw [q] at h; cases h
  | some o =>
    obtain ⟨oc, od, dt, osl⟩ := o
    rw [q] at h
    cases dt with
    | dict es n =>
      have lk : ∀ z, (kvs.map fun q => (q.1, q.2.v K)).lookup z = (kvs.lookup z).map (He.Dv.v K) := by
        intro z
        clear h q kd
        induction kvs with
        | nil => rfl
        | cons p r ih =>
          obtain ⟨pk, pv⟩ := p
          rw [List.map_cons, List.lookup_cons, List.lookup_cons, ih]
          cases (z == pk) <;> rfl
      refine ⟨kd, fun z v e => ?_, fun z e => ?_⟩
      · rw [lk] at e
        obtain ⟨i1, i2⟩ := kTab_go (K := K) z h
        rcases i2 with ⟨v0, en, e1, e2, e3⟩ | ⟨e1, e2⟩
        · rw [e1] at e
          cases e
          exact ⟨en.val, by unfold PySem.W.nsIn; rw [q]; simp only [e2], e3⟩
        · rw [e1] at e
          cases e
      · rw [lk] at e
        obtain ⟨i1, i2⟩ := kTab_go (K := K) z h
        rcases i2 with ⟨v0, en, e1, e2, e3⟩ | ⟨e1, e2⟩
        · rw [e1] at e
          cases e
        · unfold PySem.W.nsIn
          rw [q]
          simp only [e2, i1]
          rfl
    | _ => cases h
/-- a written tuple at an address -/
def kTup (K : PySem.W.Frag) (a : Addr) (vs : List He.Dv) : Bool := match K.lookup a with
  | some ⟨.type c, _, .seq its _, _⟩ => decide (c = "tuple") && (decide (its.size ≤ 1000) && He.relAll (vs.map (He.Dv.v K)) its.toList)
  | _ => false
theorem kTup_ok {K : PySem.W.Frag} {a : Addr} {vs : List He.Dv} (h : kTup K a vs = true) (H : Hp) : SqT K H a (vs.map (He.Dv.v K)) := by
  unfold kTup at h
  cases q : K.lookup a with
  | none => rw [q] at h; cases h
  | some o =>
    obtain ⟨oc, od, dt, osl⟩ := o
    rw [q] at h
    cases oc with
    | type c =>
      cases dt with
      | seq its n =>
        obtain ⟨h1, h2⟩ := He.ba h
        obtain ⟨h3, h4⟩ := He.ba h2
        have ec : c = "tuple" := of_decide_eq_true h1
        subst ec
        exact .inr ⟨_, its, n, q, rfl, rfl, Nat.le_trans (of_decide_eq_true h3) (by decide), He.relAll_ok h4⟩
      | _ => cases h
    | _ => cases dt <;> cases h
/-- the value under a key of a written dict, if it is an object -/
def tabAt (x k : Str) (K : PySem.W.Frag) : Addr := match PySem.W.nsIn K (He.ga K x) k with
  | some (some (.ref a)) => a
  | _ => 0
/-! ### data -/
theorem Same.seqT {K : PySem.W.Frag} {H H' : Hp} {a : Addr} {xs : List V} (e : Same H H') (h : SqT K H a xs) : SqT K H' a xs := Evl.ex_t e h
theorem Same.new {H : Hp} {p : Addr} {o : HO} (h : H p = none) : Same H (upd H p o) := Evl.Ex.new h
mutual
theorem dp_mono {K : PySem.W.Frag} {H H' : Hp} (e : Same H H') : ∀ {v : V} {d : PyData}, Dp K H v d → Dp K H' v d
  | _, _, .non => .non
  | _, _, .bl b => .bl b
  | _, _, .int i => .int i
  | _, _, .str x => .str x
  | _, _, .lst h a => .lst (e.seq h) (dpAll_mono e a)
  | _, _, .tup h a => .tup (Same.seqT e h) (dpAll_mono e a)
theorem dpAll_mono {K : PySem.W.Frag} {H H' : Hp} (e : Same H H') : ∀ {vs : List V} {ds : List PyData}, DpAll K H vs ds → DpAll K H' vs ds
  | _, _, .nil => .nil
  | _, _, .cons h a => .cons (dp_mono e h) (dpAll_mono e a)
end
theorem dpAll_len {K : PySem.W.Frag} {H : Hp} : ∀ {vs : List V} {ds : List PyData}, DpAll K H vs ds → vs.length = ds.length
  | _, _, .nil => rfl
  | _, _, .cons _ a => congrArg Nat.succ (dpAll_len a)
theorem dpAll_get {K : PySem.W.Frag} {H : Hp} : ∀ {vs : List V} {ds : List PyData} {i : Nat} {v : V}, DpAll K H vs ds → vs[i]? = some v → ∃ d, ds[i]? = some d ∧ Dp K H v d
  | _, _, 0, _, .cons h _, e => by cases e; exact ⟨_, rfl, h⟩
  | _, _, i + 1, _, .cons _ a, e => dpAll_get (i := i) a e
theorem dpAll_get' {K : PySem.W.Frag} {H : Hp} : ∀ {vs : List V} {ds : List PyData} {i : Nat} {d : PyData}, DpAll K H vs ds → ds[i]? = some d → ∃ v, vs[i]? = some v ∧ Dp K H v d
  | _, _, 0, _, .cons h _, e => by cases e; exact ⟨_, rfl, h⟩
  | _, _, i + 1, _, .cons _ a, e => dpAll_get' (i := i) a e
theorem dpAll_drop {K : PySem.W.Frag} {H : Hp} : ∀ {vs : List V} {ds : List PyData} (n : Nat), DpAll K H vs ds → DpAll K H (vs.drop n) (ds.drop n)
  | _, _, 0, h => h
  | _, _, _ + 1, .nil => .nil
  | _, _, n + 1, .cons _ a => dpAll_drop n a
theorem dpAll_take {K : PySem.W.Frag} {H : Hp} : ∀ {vs : List V} {ds : List PyData} (n : Nat), DpAll K H vs ds → DpAll K H (vs.take n) (ds.take n)
  | _, _, 0, h => .nil
  | _, _, _ + 1, .nil => .nil
  | _, _, n + 1, .cons h a => .cons h (dpAll_take n a)
theorem dpAll_append {K : PySem.W.Frag} {H : Hp} : ∀ {vs us : List V} {ds es : List PyData}, DpAll K H vs ds → DpAll K H us es → DpAll K H (vs ++ us) (ds ++ es)
  | _, _, _, _, .nil, h => h
  | _, _, _, _, .cons h a, k => .cons h (dpAll_append a k)
def tyN : PyData → String
  | .none => "NoneType"
  | .bool _ => "bool"
  | .int _ => "int"
  | .str _ => "str"
  | .list _ => "list"
  | .tuple _ => "tuple"
  | .dict _ => "dict"
theorem dp_ty {K : PySem.W.Frag} {H : Hp} {v : V} {d : PyData} (h : Dp K H v d) : TyX K H v (.type (tyN d)) := by
  cases h with
  | non => exact .base .non
  | bl b => exact .base (.bl b)
  | int i => exact .base (.int i)
  | str x => exact .base (.str x)
  | lst q _ =>
    rcases q with (q | ⟨o, q⟩) | ⟨o, its, n, h1, h2, _⟩
    · exact .base (.lst q)
    · exact .base (.frz q)
    · exact .kList h1 h2
  | tup q _ =>
    rcases q with (q | ⟨o, q⟩) | ⟨o, its, n, h1, h2, _⟩
    · exact .base (.tup q)
    · exact .fTuple q
    · exact .kTuple h1 h2
def isInt : PyData → Bool
  | .int _ => true
  | .bool _ => true
  | _ => false
def isBool : PyData → Bool
  | .bool _ => true
  | _ => false
def isStr : PyData → Bool
  | .str _ => true
  | _ => false
def isTup : PyData → Bool
  | .tuple _ => true
  | _ => false
def isLst : PyData → Bool
  | .list _ => true
  | _ => false
theorem kit_int (d : PyData) : kitB (tyN d) "int" = some (isInt d) := by cases d <;> kernel_rfl
theorem kit_bool (d : PyData) : kitB (tyN d) "bool" = some (isBool d) := by cases d <;> kernel_rfl
theorem kit_str (d : PyData) : kitB (tyN d) "str" = some (isStr d) := by cases d <;> kernel_rfl
theorem kit_tup (d : PyData) : kitB (tyN d) "tuple" = some (isTup d) := by cases d <;> kernel_rfl
theorem kit_lst (d : PyData) : kitB (tyN d) "list" = some (isLst d) := by cases d <;> kernel_rfl
theorem isi_d {K : PySem.W.Frag} {H : Hp} {v : V} {d : PyData} {n : String} {b : Bool} (h : Dp K H v d) (k : kitB (tyN d) n = some b) : Evl.RC (rIsi K) [v, .ty n] H (.bl b) := fun H1 e Q q =>
  ⟨v, .ty n, _, _, b, rfl, .ty n, dp_ty (dp_mono e h), kit_ty k, q H1 (Evl.Ex.refl H1)⟩
end Nt

namespace Nt
open PySem PySem.Spec PyProof.Rows L2 Evl
/-! ### values: more of Evl -/
section
variable {K : PySem.W.Frag} {σ : L2.St} {H H' : Hp} {ta tb tc te : TE} {x y z v : V} {r r' : R2}
theorem ev_chain {k1 k2 : Bool} (ha : Ev ta σ H x) (hb : Ev tb σ H y) (h1 : RV r x y H (.bl k1)) (hc : k1 = true → Ev tc σ H z) (h2 : k1 = true → RV r' y z H (.bl k2)) : Ev (tChain r r' ta tb tc) σ H (.bl (k1 && k2)) := fun H0 e Q q =>
  ha H0 e _ fun H1 e1 => hb H1 (e.trans e1) _ fun H2 e2 => h1 H2 ((e.trans e1).trans e2) _ fun H3 e3 => ⟨k1, rfl, by
    cases k1 with
    | true =>
      rw [if_pos rfl]
      refine hc rfl H3 (((e.trans e1).trans e2).trans e3) _ fun H4 e4 => ?_
      exact h2 rfl H4 ((((e.trans e1).trans e2).trans e3).trans e4) _ fun H5 e5 => q H5 (e1.trans (e2.trans (e3.trans (e4.trans e5))))
    | false =>
      rw [if_neg Bool.false_ne_true]
      exact q H3 (e1.trans (e2.trans e3))⟩
theorem rv_le {i j : Int} : RV (rI0 fun i j => .bl (decide (i ≤ j))) (.int i) (.int j) H (.bl (decide (i ≤ j))) := rv_I0
theorem rv_lt {i j : Int} : RV (rI0 fun i j => .bl (decide (i < j))) (.int i) (.int j) H (.bl (decide (i < j))) := rv_I0
theorem rv_gt {i j : Int} : RV (rI0 fun i j => .bl (decide (j < i))) (.int i) (.int j) H (.bl (decide (j < i))) := rv_I0
theorem rv_inTab {d : Addr} {kvs : List (Str × V)} {s : Str} : RV (rInTab d kvs) (.str s) (.ref d) H (.bl (kvs.lookup s).isSome) := fun H1 _ _ q => ⟨s, rfl, rfl, q H1 (Ex.refl H1)⟩
theorem rv_niTab {d : Addr} {kvs : List (Str × V)} {s : Str} : RV (rNiTab d kvs) (.str s) (.ref d) H (.bl (!(kvs.lookup s).isSome)) := fun H1 _ _ q => ⟨s, rfl, rfl, q H1 (Ex.refl H1)⟩
theorem rv_ixTab {d : Addr} {kvs : List (Str × V)} {s : Str} (h : kvs.lookup s = some v) : RV (rIxTab d kvs) (.ref d) (.str s) H v := fun H1 _ _ q => ⟨s, v, rfl, rfl, h, q H1 (Ex.refl H1)⟩
theorem rc_lenL {a : Addr} {xs : List V} (h : SqL K H a xs) : RC (rLenS K) [.ref a] H (.int xs.length) := fun H1 e _ q => ⟨a, xs, rfl, .inl (ex_l e h), q H1 (Ex.refl H1)⟩
theorem rc_lenT {a : Addr} {xs : List V} (h : SqT K H a xs) : RC (rLenS K) [.ref a] H (.int xs.length) := fun H1 e _ q => ⟨a, xs, rfl, .inr (ex_t e h), q H1 (Ex.refl H1)⟩
theorem rc_sum {a : Addr} {ns : List Int} (h : SqL K H a (ns.map V.int)) : RC (rSum K) [.ref a] H (.int ns.sum) := fun H1 e _ q => ⟨a, ns, rfl, ex_l e h, q H1 (Ex.refl H1)⟩
theorem rv_notN : RV (fun x y H Q => y = .non ∧ Q (.bl (!decide (x = .non))) H) v .non H (.bl (!decide (v = .non))) := fun H1 _ _ q => ⟨rfl, q H1 (Ex.refl H1)⟩
theorem rv_isN : RV (fun x y H Q => y = .non ∧ Q (.bl (decide (x = .non))) H) v .non H (.bl (decide (v = .non))) := fun H1 _ _ q => ⟨rfl, q H1 (Ex.refl H1)⟩
/-- a comprehension without a test, its items known one by one -/
theorem el_mapL {a : Addr} {xs ys : List V} {tl : TE} {j : Nat} {vs : List Nat} (h : Ev tl σ H (.ref a)) (hx : SqL K H a xs) (hl : ys.length = xs.length) (hz : xs.length ≤ 40000) (hw : ∀ x, wipe ((wipe σ vs).set j (some x)) vs = wipe σ vs)
    (he : ∀ (i : Nat) (x y : V) H1, Ex H H1 → xs[i]? = some x → ys[i]? = some y → Ev te ((wipe σ vs).set j (some x)) H1 y) :
    EvL (tLc (iList K tl) (gName j) tYes te vs) σ H ys := fun H0 e Q q => h H0 e _ fun H1 e1 => ⟨a, rfl, ⟨xs, ex_l (e.trans e1) hx⟩, fun Dl hD =>
  lc_list (xs := xs) (fun i H' => H1 Dl = none ∧ Ex H1 H' ∧ H' Dl = some (.lst (ys.take i))) ⟨hD, Ex.new hD, upd_same⟩ (fun i H' _ p => ex_l ((e.trans e1).trans p.2.1) hx) (fun i x H' hi p => ⟨hw x, by
      obtain ⟨p1, p2, p3⟩ := p
      have hlt : i < xs.length := (List.getElem?_eq_some_iff.mp hi).1
      obtain ⟨y, hy⟩ : ∃ y, ys[i]? = some y := ⟨ys[i], List.getElem?_eq_getElem (by omega)⟩
      dsimp only [tYes]
      rw [if_pos rfl]
      refine he i x y H' ((e.trans e1).trans p2) hi hy H' (Ex.refl _) _ fun H2 e2 => ⟨ys.take i, e2 _ _ p3, sz_lt (by rw [List.length_take]; omega), p1, Ex.mut (p2.trans e2) p1, ?_⟩
      rw [upd_same, List.take_add_one, hy]
      rfl⟩)
    (fun H' p => q Dl H' (fresh_back e1 p.1) (e1.trans p.2.1) (by rw [p.2.2, ← hl, List.take_length]))⟩
theorem el_mapT {a : Addr} {xs ys : List V} {tl : TE} {j : Nat} {vs : List Nat} (h : Ev tl σ H (.ref a)) (hx : SqT K H a xs) (hl : ys.length = xs.length) (hz : xs.length ≤ 40000) (hw : ∀ x, wipe ((wipe σ vs).set j (some x)) vs = wipe σ vs)
    (he : ∀ (i : Nat) (x y : V) H1, Ex H H1 → xs[i]? = some x → ys[i]? = some y → Ev te ((wipe σ vs).set j (some x)) H1 y) :
    EvL (tLc (iTup K tl) (gName j) tYes te vs) σ H ys := fun H0 e Q q => h H0 e _ fun H1 e1 => ⟨a, rfl, ⟨xs, ex_t (e.trans e1) hx⟩, fun Dl hD =>
  lc_tup (xs := xs) (fun i H' => H1 Dl = none ∧ Ex H1 H' ∧ H' Dl = some (.lst (ys.take i))) ⟨hD, Ex.new hD, upd_same⟩ (fun i H' _ p => ex_t ((e.trans e1).trans p.2.1) hx) (fun i x H' hi p => ⟨hw x, by
      obtain ⟨p1, p2, p3⟩ := p
      have hlt : i < xs.length := (List.getElem?_eq_some_iff.mp hi).1
      obtain ⟨y, hy⟩ : ∃ y, ys[i]? = some y := ⟨ys[i], List.getElem?_eq_getElem (by omega)⟩
      dsimp only [tYes]
      rw [if_pos rfl]
      refine he i x y H' ((e.trans e1).trans p2) hi hy H' (Ex.refl _) _ fun H2 e2 => ⟨ys.take i, e2 _ _ p3, sz_lt (by rw [List.length_take]; omega), p1, Ex.mut (p2.trans e2) p1, ?_⟩
      rw [upd_same, List.take_add_one, hy]
      rfl⟩)
    (fun H' p => q Dl H' (fresh_back e1 p.1) (e1.trans p.2.1) (by rw [p.2.2, ← hl, List.take_length]))⟩
end
/-! ### promises by values -/
def sp1 (K : PySem.W.Frag) (f : PyData → V) : Sp := fun vs H Q _ => ∃ v d, vs = [v] ∧ Dp K H v d ∧ ∀ H', Same H H' → Q (f d) H'
theorem spv1 {K : PySem.W.Frag} {f : PyData → V} {v : V} {d : PyData} {H : Hp} (h : Dp K H v d) : SpV (sp1 K f) [v] H (f d) := fun H1 e Q q E => ⟨v, d, rfl, dp_mono e h, fun H' e' => q H' e'⟩
/-- a promise that nothing asks -/
theorem Def.idle {P : Program} {w : World} {K : PySem.W.Frag} {mg : Str → Option Value} {base : Heap} {CX : CXT} {x qual : Str} {params : Arguments} {body : List Stmt} {scope : Scope} {ps : List Str} {f : Addr} (k : Nat)
    (F : ∃ fd, FunD K x qual params body scope [] [] f fd) (g : mg x = some (.ref f))
    (hb : ∀ (kV doc pm : Value) (an : Option Addr) (cdv ct : Value) (us : List Value), us.length = ps.length → bindArgs (PySem.W.fnOf x qual params body scope .none kV doc pm an cdv ct) ⟨us, []⟩ = pure (ps.zip us)) :
    Def P w K mg base CX k x ps (fun _ _ _ _ => False) := by
  obtain ⟨fd, F⟩ := F
  exact ⟨f, fd, g, F.kp, F.bindsN hb, ⟨fun _ _ _ _ h => h.elim, fun _ _ _ _ _ _ _ _ _ _ _ _ _ h => h.elim⟩⟩
end Nt

namespace Nt
open PySem PySem.Spec PyProof.Rows L2 Evl
/-! ### evaluation while some tracked lists change: M the changing addresses, J what stays true of them -/
structure Wd where
  M : Addr → Bool
  J : Hp → Prop
  live : ∀ H a, J H → M a = true → H a ≠ none
  loc : ∀ H H', J H → (∀ a, M a = true → H' a = H a) → J H'
/-- without the changing ones -/
def Wd.wo (W : Wd) (H : Hp) : Hp := fun a => if W.M a = true then none else H a
theorem Wd.wo_same (W : Wd) (H : Hp) : Same (W.wo H) H := fun a o h => by
  unfold Wd.wo at h
  split at h
  · cases h
  · exact h
/-- a later heap -/
structure Wd.Le (W : Wd) (H H' : Hp) : Prop where
  s : Same (W.wo H) (W.wo H')
  j : W.J H'
theorem Wd.Le.refl {W : Wd} {H : Hp} (h : W.J H) : W.Le H H := ⟨Same.refl _, h⟩
theorem Wd.Le.trans {W : Wd} {H H1 H2 : Hp} (a : W.Le H H1) (b : W.Le H1 H2) : W.Le H H2 := ⟨a.s.trans b.s, b.j⟩
/-- what a def without changes leaves -/
theorem Wd.Le.of_same {W : Wd} {H H' : Hp} (j : W.J H) (s : Same H H') : W.Le H H' := by
  have hm : ∀ a, W.M a = true → H' a = H a := fun a ha => by
    cases q : H a with
    | none => exact absurd q (W.live H a j ha)
    | some o => exact s a o q
  refine ⟨fun a o h => ?_, W.loc H H' j hm⟩
  unfold Wd.wo at h ⊢
  split at h
  · cases h
  · rename_i hn
    rw [if_neg hn]
    exact s a o h
theorem Wd.Le.new {W : Wd} {H : Hp} {p : Addr} {o : HO} (j : W.J H) (h : H p = none) : W.Le H (upd H p o) := .of_same j (Same.new h)
theorem Wd.notM {W : Wd} {H : Hp} {p : Addr} (j : W.J H) (h : H p = none) : W.M p = false := by
  cases q : W.M p with
  | false => rfl
  | true => exact absurd h (W.live H p j q)
theorem Wd.wo_at {W : Wd} {H : Hp} {p : Addr} {o : HO} (hm : W.M p = false) (h : H p = some o) : W.wo H p = some o := by
  unfold Wd.wo
  rw [if_neg (by rw [hm]; exact Bool.false_ne_true)]
  exact h
theorem Wd.dp {W : Wd} {K : PySem.W.Frag} {H : Hp} {v : V} {d : PyData} (h : Dp K (W.wo H) v d) : Dp K H v d := dp_mono (W.wo_same H) h
theorem Wd.Le.dp {W : Wd} {K : PySem.W.Frag} {H H' : Hp} {v : V} {d : PyData} (e : W.Le H H') (h : Dp K (W.wo H) v d) : Dp K (W.wo H') v d := dp_mono e.s h
theorem Wd.Le.dpAll {W : Wd} {K : PySem.W.Frag} {H H' : Hp} {v : List V} {d : List PyData} (e : W.Le H H') (h : DpAll K (W.wo H) v d) : DpAll K (W.wo H') v d := dpAll_mono e.s h

/-- te evaluates to a datum of P -/
def Em (W : Wd) (K : PySem.W.Frag) (te : TE) (σ : L2.St) (H : Hp) (P : PyData → Prop) : Prop := ∀ H1, W.Le H H1 → ∀ Q : VK, (∀ v d H2, W.Le H1 H2 → Dp K (W.wo H2) v d → P d → Q v H2) → te σ H1 Q
def EmA (W : Wd) (K : PySem.W.Frag) (ta : TA) (σ : L2.St) (H : Hp) (P : List PyData → Prop) : Prop := ∀ H1, W.Le H H1 → ∀ Q : List V → Hp → Prop, (∀ vs ds H2, W.Le H1 H2 → DpAll K (W.wo H2) vs ds → P ds → Q vs H2) → ta σ H1 Q
def EmT (W : Wd) (tt : TT) (σ : L2.St) (H : Hp) (P : Bool → Prop) : Prop := ∀ H1, W.Le H H1 → ∀ Q : Bool → Hp → Prop, (∀ b H2, W.Le H1 H2 → P b → Q b H2) → tt σ H1 Q
/-- an int of P, a text of P, a truth of P -/
def IsI (P : Int → Prop) (d : PyData) : Prop := ∃ i, d = .int i ∧ P i
def IsS (P : Str → Prop) (d : PyData) : Prop := ∃ s, d = .str s ∧ P s
def IsB (P : Bool → Prop) (d : PyData) : Prop := ∃ b, d = .bool b ∧ P b
def IsLs (P : List PyData → Prop) (d : PyData) : Prop := ∃ ds, d = .list ds ∧ P ds
def IsTp (P : List PyData → Prop) (d : PyData) : Prop := ∃ ds, d = .tuple ds ∧ P ds
section
variable {W : Wd} {K : PySem.W.Frag} {σ : L2.St} {H H' : Hp} {te ta tb tc : TE} {P P1 P2 P3 : PyData → Prop} {t u : TT} {D : Ends} {tu tw tz : TS}
theorem dpI {v : V} {i : Int} (h : Dp K H v (.int i)) : v = .int i := by cases h; rfl
theorem dpS {v : V} {s : Str} (h : Dp K H v (.str s)) : v = .str s := by cases h; rfl
theorem dpB {v : V} {b : Bool} (h : Dp K H v (.bool b)) : v = .bl b := by cases h; rfl
theorem dpN {v : V} (h : Dp K H v .none) : v = .non := by cases h; rfl
theorem dpT {v : V} {ds : List PyData} (h : Dp K H v (.tuple ds)) : ∃ a xs, v = .ref a ∧ SqT K H a xs ∧ DpAll K H xs ds := by
  cases h with
  | tup h1 h2 => exact ⟨_, _, rfl, h1, h2⟩
theorem dpL {v : V} {ds : List PyData} (h : Dp K H v (.list ds)) : ∃ a xs, v = .ref a ∧ SqL K H a xs ∧ DpAll K H xs ds := by
  cases h with
  | lst h1 h2 => exact ⟨_, _, rfl, h1, h2⟩
theorem Em.mono (e : W.Le H H') (h : Em W K te σ H P) : Em W K te σ H' P := fun H1 a Q q => h H1 (e.trans a) Q q
theorem Em.imp (h : Em W K te σ H P) (i : ∀ d, P d → P1 d) : Em W K te σ H P1 := fun H1 a Q q => h H1 a Q fun v d H2 e hd p => q v d H2 e hd (i d p)
theorem EmT.imp {P P1 : Bool → Prop} (h : EmT W t σ H P) (i : ∀ d, P d → P1 d) : EmT W t σ H P1 := fun H1 a Q q => h H1 a Q fun b H2 e p => q b H2 e (i b p)
theorem EmA.imp {ta : TA} {P P1 : List PyData → Prop} (h : EmA W K ta σ H P) (i : ∀ d, P d → P1 d) : EmA W K ta σ H P1 := fun H1 a Q q => h H1 a Q fun v d H2 e hd p => q v d H2 e hd (i d p)
theorem em_var {i : Nat} {v : V} {d : PyData} (h : σ[i]? = some (some v)) (hd : Dp K (W.wo H) v d) (p : P d) : Em W K (tVar i) σ H P := fun H1 e _ q => ⟨v, h, q v d H1 (.refl e.j) (e.dp hd) p⟩
theorem em_int {i : Int} (p : P (.int i)) : Em W K (tC (.int i)) σ H P := fun H1 e _ q => q _ _ H1 (.refl e.j) (.int i) p
theorem em_str {s : Str} (p : P (.str s)) : Em W K (tC (.str s)) σ H P := fun H1 e _ q => q _ _ H1 (.refl e.j) (.str s) p
theorem em_bl {b : Bool} (p : P (.bool b)) : Em W K (tC (.bl b)) σ H P := fun H1 e _ q => q _ _ H1 (.refl e.j) (.bl b) p
theorem em_non (p : P .none) : Em W K (tC .non) σ H P := fun H1 e _ q => q _ _ H1 (.refl e.j) .non p
/-- what evaluates purely -/
theorem em_of {v : V} {d : PyData} (h : ∀ H1, W.Le H H1 → Ev te σ H1 v) (hd : ∀ H1, W.Le H H1 → Dp K (W.wo H1) v d) (p : P d) : Em W K te σ H P := fun H1 e Q q =>
  h H1 e H1 (Ex.refl _) Q fun H2 e2 => q v d H2 (.of_same e.j e2) (hd H2 (e.trans (.of_same e.j e2))) p
theorem em_op {r : R2} (ha : Em W K ta σ H P1) (hb : Em W K tb σ H P2) (hr : ∀ x y dx dy H1, W.Le H H1 → Dp K (W.wo H1) x dx → P1 dx → Dp K (W.wo H1) y dy → P2 dy → ∀ Q : VK, (∀ v d H2, W.Le H1 H2 → Dp K (W.wo H2) v d → P d → Q v H2) → r x y H1 Q) : Em W K (tOp r ta tb) σ H P := fun H1 e Q q =>
  ha H1 e _ fun x dx H2 e2 hx px => hb H2 (e.trans e2) _ fun y dy H3 e3 hy py => hr x y dx dy H3 (e.trans (e2.trans e3)) (e3.dp hx) px hy py Q fun v d H4 e4 hv pv => q v d H4 (e2.trans (e3.trans e4)) hv pv
theorem em_opI {C : Int → Int → Prop} {g : Int → Int → Int} {P1 P2 P : Int → Prop} (ha : Em W K ta σ H (IsI P1)) (hb : Em W K tb σ H (IsI P2)) (hc : ∀ i j, P1 i → P2 j → C i j ∧ P (g i j)) : Em W K (tOp (rI C fun i j => .int (g i j)) ta tb) σ H (IsI P) :=
  em_op ha hb fun x y dx dy H1 e hx px hy py Q q => by
    obtain ⟨i, rfl, p1⟩ := px
    obtain ⟨j, rfl, p2⟩ := py
    cases dpI hx
    cases dpI hy
    exact ⟨i, j, rfl, rfl, (hc i j p1 p2).1, q _ _ H1 (.refl e.j) (.int _) ⟨_, rfl, (hc i j p1 p2).2⟩⟩
theorem em_opI0 {g : Int → Int → Int} {P1 P2 P : Int → Prop} (ha : Em W K ta σ H (IsI P1)) (hb : Em W K tb σ H (IsI P2)) (hc : ∀ i j, P1 i → P2 j → P (g i j)) : Em W K (tOp (rI0 fun i j => .int (g i j)) ta tb) σ H (IsI P) :=
  em_op ha hb fun x y dx dy H1 e hx px hy py Q q => by
    obtain ⟨i, rfl, p1⟩ := px
    obtain ⟨j, rfl, p2⟩ := py
    cases dpI hx
    cases dpI hy
    exact ⟨i, j, rfl, rfl, q _ _ H1 (.refl e.j) (.int _) ⟨_, rfl, hc i j p1 p2⟩⟩
theorem em_cmpI {g : Int → Int → Bool} {P1 P2 : Int → Prop} {P : Bool → Prop} (ha : Em W K ta σ H (IsI P1)) (hb : Em W K tb σ H (IsI P2)) (hc : ∀ i j, P1 i → P2 j → P (g i j)) : Em W K (tOp (rI0 fun i j => .bl (g i j)) ta tb) σ H (IsB P) :=
  em_op ha hb fun x y dx dy H1 e hx px hy py Q q => by
    obtain ⟨i, rfl, p1⟩ := px
    obtain ⟨j, rfl, p2⟩ := py
    cases dpI hx
    cases dpI hy
    exact ⟨i, j, rfl, rfl, q _ _ H1 (.refl e.j) (.bl _) ⟨_, rfl, hc i j p1 p2⟩⟩
theorem dec_intV (i j : Int) : decide (V.int i = V.int j) = decide (i = j) := by
  by_cases h : i = j
  · subst h; simp
  · rw [decide_eq_false h, decide_eq_false]
    intro q; injection q with q; exact h q
theorem dec_strV (i j : Str) : decide (V.str i = V.str j) = decide (i = j) := by
  by_cases h : i = j
  · subst h; simp
  · rw [decide_eq_false h, decide_eq_false]
    intro q; injection q with q; exact h q
theorem em_eqI {P1 P2 : Int → Prop} {P : Bool → Prop} (ha : Em W K ta σ H (IsI P1)) (hb : Em W K tb σ H (IsI P2)) (hc : ∀ i j, P1 i → P2 j → P (decide (i = j))) : Em W K (tOp rEq ta tb) σ H (IsB P) :=
  em_op ha hb fun x y dx dy H1 e hx px hy py Q q => by
    obtain ⟨i, rfl, p1⟩ := px
    obtain ⟨j, rfl, p2⟩ := py
    cases dpI hx
    cases dpI hy
    exact ⟨rfl, q _ _ H1 (.refl e.j) (.bl _) ⟨_, rfl, by rw [dec_intV]; exact hc i j p1 p2⟩⟩
theorem em_neI {P1 P2 : Int → Prop} {P : Bool → Prop} (ha : Em W K ta σ H (IsI P1)) (hb : Em W K tb σ H (IsI P2)) (hc : ∀ i j, P1 i → P2 j → P (!decide (i = j))) : Em W K (tOp rNe ta tb) σ H (IsB P) :=
  em_op ha hb fun x y dx dy H1 e hx px hy py Q q => by
    obtain ⟨i, rfl, p1⟩ := px
    obtain ⟨j, rfl, p2⟩ := py
    cases dpI hx
    cases dpI hy
    exact ⟨rfl, q _ _ H1 (.refl e.j) (.bl _) ⟨_, rfl, by rw [dec_intV]; exact hc i j p1 p2⟩⟩
theorem em_eqS {P1 P2 : Str → Prop} {P : Bool → Prop} (ha : Em W K ta σ H (IsS P1)) (hb : Em W K tb σ H (IsS P2)) (hc : ∀ i j, P1 i → P2 j → P (decide (i = j))) : Em W K (tOp rEq ta tb) σ H (IsB P) :=
  em_op ha hb fun x y dx dy H1 e hx px hy py Q q => by
    obtain ⟨i, rfl, p1⟩ := px
    obtain ⟨j, rfl, p2⟩ := py
    cases dpS hx
    cases dpS hy
    exact ⟨rfl, q _ _ H1 (.refl e.j) (.bl _) ⟨_, rfl, by rw [dec_strV]; exact hc i j p1 p2⟩⟩
theorem em_neB {P1 P2 : Bool → Prop} {P : Bool → Prop} (ha : Em W K ta σ H (IsB P1)) (hb : Em W K tb σ H (IsB P2)) (hc : ∀ i j, P1 i → P2 j → P (!decide (i = j))) : Em W K (tOp rNe ta tb) σ H (IsB P) :=
  em_op ha hb fun x y dx dy H1 e hx px hy py Q q => by
    obtain ⟨i, rfl, p1⟩ := px
    obtain ⟨j, rfl, p2⟩ := py
    cases dpB hx
    cases dpB hy
    have eq : decide (V.bl i = V.bl j) = decide (i = j) := by cases i <;> cases j <;> rfl
    exact ⟨rfl, q _ _ H1 (.refl e.j) (.bl _) ⟨_, rfl, by rw [eq]; exact hc i j p1 p2⟩⟩
theorem ema_nil {P : List PyData → Prop} (p : P []) : EmA W K tNil σ H P := fun H1 e _ q => q _ _ H1 (.refl e.j) .nil p
theorem ema_cons {tr : TA} {P : List PyData → Prop} (h : Em W K te σ H P1) (hr : ∀ d, P1 d → EmA W K tr σ H fun ds => P (d :: ds)) : EmA W K (tCons te tr) σ H P := fun H1 e _ q =>
  h H1 e _ fun v d H2 e2 hd p => hr d p H2 (e.trans e2) _ fun vs ds H3 e3 hds ps => q (v :: vs) (d :: ds) H3 (e2.trans e3) (.cons (e3.dp hd) hds) ps
theorem em_tup {ta : TA} (h : EmA W K ta σ H fun ds => ds.length ≤ 20000 ∧ P (.tuple ds)) : Em W K (tTup ta) σ H P := fun H1 e _ q => h H1 e _ fun vs ds H2 e2 hds p =>
  ⟨sz_of (by rw [dpAll_len hds]; omega), fun a ha => q (.ref a) (.tuple ds) (upd H2 a (.tup vs)) (e2.trans (.new e2.j ha)) (.tup (st_of (Wd.wo_at (Wd.notM e2.j ha) upd_same)) ((Wd.Le.new e2.j ha).dpAll hds)) p.2⟩
theorem em_lst {ta : TA} (h : EmA W K ta σ H fun ds => ds.length ≤ 20000 ∧ P (.list ds)) : Em W K (tLst ta) σ H P := fun H1 e _ q => h H1 e _ fun vs ds H2 e2 hds p =>
  ⟨sz_of (by rw [dpAll_len hds]; omega), fun a ha => q (.ref a) (.list ds) (upd H2 a (.lst vs)) (e2.trans (.new e2.j ha)) (.lst (sq_of (Wd.wo_at (Wd.notM e2.j ha) upd_same)) ((Wd.Le.new e2.j ha).dpAll hds)) p.2⟩
theorem sqL_wo {a : Addr} {xs : List V} (h : SqL K (W.wo H) a xs) : SqL K H a xs := Same.seq (W.wo_same H) h
theorem sqT_wo {a : Addr} {xs : List V} (h : SqT K (W.wo H) a xs) : SqT K H a xs := Same.seqT (W.wo_same H) h
theorem dp_atI {vs : List V} {ds : List PyData} {i : Int} {d : PyData} (h : DpAll K H vs ds) (e : atI ds i = some d) : ∃ v, atI vs i = some v ∧ Dp K H v d := by
  unfold atI at e ⊢
  rw [dpAll_len h]
  cases q : ixN ds.length i with
  | none => rw [q] at e; cases e
  | some j =>
    rw [q] at e
    exact dpAll_get' h e
/-- xs[i] of a list that the expression makes or names -/
theorem em_ixL {P1 : List PyData → Prop} {P2 : Int → Prop} (ha : Em W K ta σ H (IsLs P1)) (hb : Em W K tb σ H (IsI P2)) (hc : ∀ ds i, P1 ds → P2 i → ∃ d, atI ds i = some d ∧ P d) : Em W K (tOp (rIxL K) ta tb) σ H P :=
  em_op ha hb fun x y dx dy H1 e hx px hy py Q q => by
    obtain ⟨ds, rfl, p1⟩ := px
    obtain ⟨i, rfl, p2⟩ := py
    obtain ⟨a, xs, rfl, hs, hds⟩ := dpL hx
    cases dpI hy
    obtain ⟨d, hd, p⟩ := hc ds i p1 p2
    obtain ⟨v, hv, hdv⟩ := dp_atI hds hd
    exact ⟨a, xs, i, v, rfl, rfl, sqL_wo hs, hv, q v d H1 (.refl e.j) hdv p⟩
theorem em_ixT {P1 : List PyData → Prop} {P2 : Int → Prop} (ha : Em W K ta σ H (IsTp P1)) (hb : Em W K tb σ H (IsI P2)) (hc : ∀ ds i, P1 ds → P2 i → ∃ d, atI ds i = some d ∧ P d) : Em W K (tOp (rIxT K) ta tb) σ H P :=
  em_op ha hb fun x y dx dy H1 e hx px hy py Q q => by
    obtain ⟨ds, rfl, p1⟩ := px
    obtain ⟨i, rfl, p2⟩ := py
    obtain ⟨a, xs, rfl, hs, hds⟩ := dpT hx
    cases dpI hy
    obtain ⟨d, hd, p⟩ := hc ds i p1 p2
    obtain ⟨v, hv, hdv⟩ := dp_atI hds hd
    exact ⟨a, xs, i, v, rfl, rfl, sqT_wo hs, hv, q v d H1 (.refl e.j) hdv p⟩
/-- 'ab'[i] -/
theorem em_ixS {P1 : Str → Prop} {P2 : Int → Prop} {P : Str → Prop} (ha : Em W K ta σ H (IsS P1)) (hb : Em W K tb σ H (IsI P2)) (hc : ∀ s i, P1 s → P2 i → ∃ c, s.length ≤ 20000 ∧ atI s.cps.toList i = some c ∧ P ⟨#[c]⟩) : Em W K (tOp rIxS ta tb) σ H (IsS P) :=
  em_op ha hb fun x y dx dy H1 e hx px hy py Q q => by
    obtain ⟨s, rfl, p1⟩ := px
    obtain ⟨i, rfl, p2⟩ := py
    cases dpS hx
    cases dpI hy
    obtain ⟨c, hl, hc, p⟩ := hc s i p1 p2
    exact ⟨s, i, c, rfl, rfl, sz_of (by omega), hc, q _ _ H1 (.refl e.j) (.str _) ⟨_, rfl, p⟩⟩
/-- tests -/
theorem emt_test {P : Bool → Prop} (h : Em W K te σ H (IsB P)) : EmT W (tTest te) σ H P := fun H1 e Q q => h H1 e _ fun v d H2 e2 hd p => by
  obtain ⟨b, rfl, pb⟩ := p
  cases dpB hd
  exact ⟨b, rfl, q b H2 e2 pb⟩
theorem emt_B {P : Bool → Prop} (h : Em W K te σ H (IsB P)) : EmT W (tB te) σ H P := fun H1 e Q q => h H1 e _ fun v d H2 e2 hd p => by
  obtain ⟨b, rfl, pb⟩ := p
  cases dpB hd
  exact ⟨b, rfl, q b H2 e2 pb⟩
theorem emt_not {P : Bool → Prop} (h : EmT W t σ H fun b => P (!b)) : EmT W (tNot t) σ H P := fun H1 e _ q => h H1 e _ fun b H2 e2 p => q (!b) H2 e2 p
theorem emt_and {P1 P : Bool → Prop} (h1 : EmT W t σ H P1) (h2 : P1 true → EmT W u σ H P) (h3 : P1 false → P false) : EmT W (tAnd t u) σ H P := fun H1 e Q q => h1 H1 e _ fun b H2 e2 p => by
  cases b with
  | true =>
    refine iteT (h2 p H2 (e.trans e2) Q fun b H3 e3 p3 => q b H3 (e2.trans e3) p3)
  | false => exact iteF (q false H2 e2 (h3 p))
theorem emt_or {P1 P : Bool → Prop} (h1 : EmT W t σ H P1) (h2 : P1 false → EmT W u σ H P) (h3 : P1 true → P true) : EmT W (tOr t u) σ H P := fun H1 e Q q => h1 H1 e _ fun b H2 e2 p => by
  cases b with
  | true => exact iteT (q true H2 e2 (h3 p))
  | false => exact iteF (h2 p H2 (e.trans e2) Q fun b H3 e3 p3 => q b H3 (e2.trans e3) p3)
theorem em_if {P1 : Bool → Prop} (h : EmT W t σ H P1) (h1 : P1 true → Em W K ta σ H P) (h2 : P1 false → Em W K tb σ H P) : Em W K (tIf t ta tb) σ H P := fun H1 e Q q => h H1 e _ fun b H2 e2 p => by
  cases b with
  | true => exact iteT (h1 p H2 (e.trans e2) Q fun v d H3 e3 hd p3 => q v d H3 (e2.trans e3) hd p3)
  | false => exact iteF (h2 p H2 (e.trans e2) Q fun v d H3 e3 hd p3 => q v d H3 (e2.trans e3) hd p3)
theorem em_andV {P1 P : Bool → Prop} (h1 : Em W K ta σ H (IsB P1)) (h2 : P1 true → Em W K tb σ H (IsB P)) (h3 : P1 false → P false) : Em W K (tAndV ta tb) σ H (IsB P) := fun H1 e Q q => h1 H1 e _ fun v d H2 e2 hd p => by
  obtain ⟨b, rfl, pb⟩ := p
  cases dpB hd
  refine ⟨b, rfl, ?_⟩
  cases b with
  | true => exact iteT (h2 pb H2 (e.trans e2) Q fun v d H3 e3 hd p3 => q v d H3 (e2.trans e3) hd p3)
  | false => exact iteF (q _ _ H2 e2 (.bl false) ⟨false, rfl, h3 pb⟩)
/-- statements -/
theorem m_asg {i : Nat} (j : W.J H) (h : Em W K te σ H P) (k : ∀ v d H1, W.Le H H1 → Dp K (W.wo H1) v d → P d → tz D (σ.set i (some v)) H1) : tSeq (tAsg te (gName i)) tz D σ H := h H (.refl j) _ fun v d H1 e hd p => k v d H1 e hd p
theorem m_set {i : Nat} (j : W.J H) (h : Em W K te σ H P) (k : ∀ v d H1, W.Le H H1 → Dp K (W.wo H1) v d → P d → D.nx (σ.set i (some v)) H1) : tAsg te (gName i) D σ H := h H (.refl j) _ fun v d H1 e hd p => k v d H1 e hd p
theorem m_ret (j : W.J H) (h : Em W K te σ H P) (k : ∀ v d H1, W.Le H H1 → Dp K (W.wo H1) v d → P d → D.rt v H1) : tRet te D σ H := h H (.refl j) _ fun v d H1 e hd p => k v d H1 e hd p
theorem m_if {P : Bool → Prop} (j : W.J H) (h : EmT W t σ H P) (h1 : P true → ∀ H1, W.Le H H1 → tu { D with nx := tz D } σ H1) (h2 : P false → ∀ H1, W.Le H H1 → tw { D with nx := tz D } σ H1) : tSeq (tIfS t tu tw) tz D σ H := h H (.refl j) _ fun b H1 e p => by
  cases b with
  | true => exact iteT (h1 p H1 e)
  | false => exact iteF (h2 p H1 e)
theorem m_when {P : Bool → Prop} (j : W.J H) (h : EmT W t σ H P) (h1 : P true → ∀ H1, W.Le H H1 → tu { D with nx := tz D } σ H1) (h2 : P false → ∀ H1, W.Le H H1 → tz D σ H1) : tSeq (tIfS t tu tNext) tz D σ H := m_if j h h1 h2
theorem m_ifL {P : Bool → Prop} (j : W.J H) (h : EmT W t σ H P) (h1 : P true → ∀ H1, W.Le H H1 → tu D σ H1) (h2 : P false → ∀ H1, W.Le H H1 → tw D σ H1) : tIfS t tu tw D σ H := h H (.refl j) _ fun b H1 e p => by
  cases b with
  | true => exact iteT (h1 p H1 e)
  | false => exact iteF (h2 p H1 e)
end
end Nt
namespace Nt
open PySem PySem.Spec PyProof.Rows L2 Evl
/-! ### one more changing object: at p stands o -/
def Wd.plus (W : Wd) (p : Addr) (o : HO) : Wd where
  M := fun a => W.M a || a == p
  J := fun H => W.J H ∧ H p = some o
  live := fun H a ⟨j, h⟩ e => by
    rcases Bool.or_eq_true_iff.mp e with q | q
    · exact W.live H a j q
    · rw [eq_of_beq q, h]; exact fun z => nomatch z
  loc := fun H H' ⟨j, h⟩ k => ⟨W.loc H H' j fun a ha => k a (by rw [ha]; rfl), by rw [k p (by rw [beq_self_eq_true, Bool.or_true])]; exact h⟩
theorem Wd.plus_wo {W : Wd} {p : Addr} {ob : HO} {H : Hp} {a : Addr} {o : HO} (h : (W.plus p ob).wo H a = some o) : W.wo H a = some o ∧ a ≠ p := by
  unfold Wd.wo Wd.plus at h
  dsimp only at h
  by_cases hm : (W.M a || a == p) = true
  · rw [if_pos hm] at h; cases h
  · rw [if_neg hm] at h
    have h1 : W.M a = false := by
      cases q : W.M a with
      | false => rfl
      | true => rw [q] at hm; exact absurd rfl hm
    have h2 : a ≠ p := fun q => hm (by rw [q, beq_self_eq_true, Bool.or_true])
    refine ⟨?_, h2⟩
    unfold Wd.wo
    rw [if_neg (by rw [h1]; exact Bool.false_ne_true)]
    exact h
theorem Wd.wo_plus {W : Wd} {p : Addr} {ob : HO} {H : Hp} {a : Addr} {o : HO} (h : W.wo H a = some o) (hn : a ≠ p) : (W.plus p ob).wo H a = some o := by
  unfold Wd.wo at h
  by_cases hm : W.M a = true
  · rw [if_pos hm] at h; cases h
  · rw [if_neg hm] at h
    unfold Wd.wo Wd.plus
    dsimp only
    rw [if_neg]
    · exact h
    · intro q
      rcases Bool.or_eq_true_iff.mp q with q | q
      · exact hm q
      · exact hn (eq_of_beq q)
theorem Wd.plus_same {W : Wd} {p : Addr} {ob : HO} {H : Hp} : Same ((W.plus p ob).wo H) (W.wo H) := fun _ _ h => (Wd.plus_wo h).1
theorem Wd.same_plus {W : Wd} {p : Addr} {ob : HO} {H : Hp} (h : H p = none) : Same (W.wo H) ((W.plus p ob).wo H) := fun a u e => by
  refine Wd.wo_plus e fun q => ?_
  rw [q] at e
  have := W.wo_same H p u e
  rw [h] at this; cases this
theorem Wd.wo_upd {W : Wd} {p : Addr} {ob o : HO} {H : Hp} : Same ((W.plus p ob).wo H) ((W.plus p ob).wo (upd H p o)) := fun a u h => by
  obtain ⟨h1, hn⟩ := Wd.plus_wo h
  refine Wd.wo_plus ?_ hn
  unfold Wd.wo at h1 ⊢
  split at h1
  · cases h1
  · rename_i q
    rw [if_neg q, upd_ne hn]
    exact h1
theorem Wd.plus_j {W : Wd} {p : Addr} {H : Hp} {o : HO} (j : W.J H) (hm : W.M p = false) : (W.plus p o).J (upd H p o) := by
  refine ⟨W.loc H _ j fun a ha => ?_, upd_same⟩
  rw [upd_ne]
  intro q
  rw [q, hm] at ha
  cases ha
/-- out of the larger one: p was not there -/
theorem Wd.of_plus {W : Wd} {p : Addr} {ob : HO} {H H2 : Hp} (hp : H p = none) (j : W.J H2) (s : Same ((W.plus p ob).wo H) ((W.plus p ob).wo H2)) : W.Le H H2 :=
  ⟨fun a u h => Wd.plus_same a u (s a u (Wd.same_plus hp a u h)), j⟩
section
variable {W : Wd} {K : PySem.W.Frag} {σ : L2.St} {H H' : Hp} {te ta tb tc : TE} {P P1 P2 P3 : PyData → Prop} {t u : TT} {D : Ends} {tu tw tz : TS}
theorem m_forR {ta : TA} {j : Nat} {Pn : Int → Prop} (jH : W.J H) (h : EmA W K ta σ H fun ds => ∃ n, ds = [.int n] ∧ Pn n) (hn : ∀ n, Pn n → -100000 ≤ n ∧ n ≤ 100000) (Pv : Int → Nat → L2.St → Hp → Prop) (h0 : ∀ n H1, Pn n → W.Le H H1 → Pv n 0 σ H1)
    (hs : ∀ n (i : Nat) σ' H', Pn n → (i : Int) < n → Pv n i σ' H' → tu { D with nx := Pv n (i + 1), ct := Pv n (i + 1), bk := tz D } (σ'.set j (some (.int (i : Int)))) H') (hd : ∀ n σ' H', Pn n → Pv n n.toNat σ' H' → tz D σ' H') : tSeq (tFor (iRng1 ta) (gName j) tu) tz D σ H :=
  h H (.refl jH) _ fun vs ds H1 e hds p => by
    obtain ⟨n, rfl, pn⟩ := p
    obtain ⟨x, rfl⟩ := (show ∃ x, vs = [x] by
      cases hds with
      | cons h1 h2 => cases h2; exact ⟨_, rfl⟩)
    have hx : x = .int n := by
      cases hds with
      | cons h1 h2 => exact dpI h1
    subst hx
    refine ⟨n, rfl, by have := hn n pn; omega, by have := hn n pn; omega, for_range (D := { D with nx := tz D }) (lo := 0) (n := n.toNat) (Pv n) (h0 n H1 pn e) (fun i σ' H' hi p => ?_) fun σ' H' p => hd n σ' H' pn p⟩
    have e0 : (0 : Int) + (i : Int) = (i : Int) := Int.zero_add _
    show tu { D with nx := Pv n (i + 1), ct := Pv n (i + 1), bk := tz D } (σ'.set j (some (.int ((0 : Int) + (i : Int))))) H'
    rw [e0]
    exact hs n i σ' H' pn (by omega) p
/-- [e for j in range(n)], e may draw -/
theorem em_lcR {ta : TA} {j : Nat} {vs : List Nat} {Pn : Int → Prop} {Pe : PyData → Prop} (h : EmA W K ta σ H fun ds => ∃ n, ds = [.int n] ∧ Pn n) (hn : ∀ n, Pn n → -20000 ≤ n ∧ n ≤ 20000) (hw : ∀ x, wipe ((wipe σ vs).set j (some x)) vs = wipe σ vs)
    (he : ∀ n (i : Nat) p acc H1, Pn n → (i : Int) < n → W.M p = false → Same (W.wo H) ((W.plus p (.lst acc)).wo H1) → (W.plus p (.lst acc)).J H1 → Em (W.plus p (.lst acc)) K te ((wipe σ vs).set j (some (.int (i : Int)))) H1 Pe) :
    Em W K (tLc (iRng1 ta) (gName j) tYes te vs) σ H (IsLs fun ds => ∃ n, Pn n ∧ ds.length = n.toNat ∧ ∀ d, d ∈ ds → Pe d) := fun H0 e Q q => h H0 e _ fun us ds H1 e1 hds p => by
  obtain ⟨n, rfl, pn⟩ := p
  obtain ⟨x, rfl⟩ := (show ∃ x, us = [x] by
    cases hds with
    | cons h1 h2 => cases h2; exact ⟨_, rfl⟩)
  have hx : x = .int n := by
    cases hds with
    | cons h1 h2 => exact dpI h1
  subst hx
  have hb := hn n pn
  refine ⟨n, rfl, by omega, by omega, fun Dl hD => ?_⟩
  have hm := Wd.notM e1.j hD
  refine lc_range (lo := 0) (n := n.toNat) (fun i H' => Same ((W.plus Dl (.lst [])).wo H1) ((W.plus Dl (.lst [])).wo H') ∧ W.J H' ∧ ∃ acc es, H' Dl = some (.lst acc) ∧ DpAll K ((W.plus Dl (.lst [])).wo H') acc es ∧ es.length = i ∧ ∀ d, d ∈ es → Pe d)
    ⟨Wd.wo_upd, (Wd.plus_j (o := .lst []) e1.j hm).1, [], [], upd_same, .nil, rfl, fun d hd => by cases hd⟩ (fun i H' hi pp => ⟨hw _, ?_⟩) fun H' pp => ?_
  · obtain ⟨sm, jj, acc, es, h1, h2, h3, h4⟩ := pp
    dsimp only [tYes]
    rw [if_pos rfl]
    have e0 : (0 : Int) + (i : Int) = (i : Int) := Int.zero_add _
    rw [e0]
    have sm0 : Same (W.wo H) ((W.plus Dl (.lst acc)).wo H') := (e.trans e1).s.trans ((Wd.same_plus hD).trans sm)
    refine he n i Dl acc H' pn (by omega) hm sm0 ⟨jj, h1⟩ H' (.refl ⟨jj, h1⟩) _ fun v d H2 e2 hd pd => ?_
    refine ⟨acc, e2.j.2, sz_lt (by rw [dpAll_len h2, h3]; omega), sm.trans (e2.s.trans Wd.wo_upd), (Wd.plus_j (o := .lst (acc ++ [v])) e2.j.1 hm).1, acc ++ [v], es ++ [d], upd_same, ?_, by rw [List.length_append, h3]; rfl, fun x hx => ?_⟩
    · exact dpAll_mono Wd.wo_upd (dpAll_append (dpAll_mono e2.s h2) (.cons hd .nil))
    · rcases List.mem_append.mp hx with hx | hx
      · exact h4 x hx
      · rw [List.mem_singleton.mp hx]; exact pd
  · obtain ⟨sm, jj, acc, es, h1, h2, h3, h4⟩ := pp
    exact q (.ref Dl) (.list es) H' (e1.trans (Wd.of_plus hD jj sm)) (.lst (sq_of (Wd.wo_at hm h1)) (dpAll_mono Wd.plus_same h2)) ⟨es, rfl, n, pn, h3, h4⟩
/-- len, tuple(..), slices, + of data -/
theorem em_lenT {P1 : List PyData → Prop} {P : Int → Prop} (h : Em W K te σ H (IsTp P1)) (hp : ∀ ds, P1 ds → P ds.length) : Em W K (tCB (rLenS K) (tCons te tNil)) σ H (IsI P) := fun H1 e Q q => h H1 e _ fun v d H2 e2 hd p => by
  obtain ⟨ds, rfl, p1⟩ := p
  obtain ⟨a, xs, rfl, hs, hds⟩ := dpT hd
  exact ⟨a, xs, rfl, .inr (sqT_wo hs), q _ _ H2 e2 (.int _) ⟨_, rfl, by rw [dpAll_len hds]; exact hp ds p1⟩⟩
theorem em_lenL {P1 : List PyData → Prop} {P : Int → Prop} (h : Em W K te σ H (IsLs P1)) (hp : ∀ ds, P1 ds → P ds.length) : Em W K (tCB (rLenS K) (tCons te tNil)) σ H (IsI P) := fun H1 e Q q => h H1 e _ fun v d H2 e2 hd p => by
  obtain ⟨ds, rfl, p1⟩ := p
  obtain ⟨a, xs, rfl, hs, hds⟩ := dpL hd
  exact ⟨a, xs, rfl, .inl (sqL_wo hs), q _ _ H2 e2 (.int _) ⟨_, rfl, by rw [dpAll_len hds]; exact hp ds p1⟩⟩
def rTupO (K : PySem.W.Frag) : List V → Hp → VK → Prop := fun xs H Q => ∃ p ys, xs = [.ref p] ∧ ((SqL K H p ys ∧ ∀ l, H l = none → Q (.ref l) (upd H l (.tup ys))) ∨ (SqT K H p ys ∧ Q (.ref p) H))
/-- tuple(list) -/
theorem em_tupL {P1 : List PyData → Prop} (h : Em W K te σ H (IsLs P1)) (hp : ∀ ds, P1 ds → P (.tuple ds)) : Em W K (tCB (rTupO K) (tCons te tNil)) σ H P := fun H1 e Q q => h H1 e _ fun v d H2 e2 hd p => by
  obtain ⟨ds, rfl, p1⟩ := p
  obtain ⟨a, xs, rfl, hs, hds⟩ := dpL hd
  refine ⟨a, xs, rfl, .inl ⟨sqL_wo hs, fun l hl => ?_⟩⟩
  exact q (.ref l) (.tuple ds) (upd H2 l (.tup xs)) (e2.trans (.new e2.j hl)) (.tup (st_of (Wd.wo_at (Wd.notM e2.j hl) upd_same)) ((Wd.Le.new e2.j hl).dpAll hds)) (hp ds p1)
/-- list(list), list(tuple) -/
theorem em_lstL {P1 : List PyData → Prop} (h : Em W K te σ H (IsLs P1)) (hp : ∀ ds, P1 ds → P (.list ds)) : Em W K (tCB (rListS K) (tCons te tNil)) σ H P := fun H1 e Q q => h H1 e _ fun v d H2 e2 hd p => by
  obtain ⟨ds, rfl, p1⟩ := p
  obtain ⟨a, xs, rfl, hs, hds⟩ := dpL hd
  refine ⟨a, xs, rfl, .inl (sqL_wo hs), fun l hl => ?_⟩
  exact q (.ref l) (.list ds) (upd H2 l (.lst xs)) (e2.trans (.new e2.j hl)) (.lst (sq_of (Wd.wo_at (Wd.notM e2.j hl) upd_same)) ((Wd.Le.new e2.j hl).dpAll hds)) (hp ds p1)
theorem em_lstT {P1 : List PyData → Prop} (h : Em W K te σ H (IsTp P1)) (hp : ∀ ds, P1 ds → P (.list ds)) : Em W K (tCB (rListS K) (tCons te tNil)) σ H P := fun H1 e Q q => h H1 e _ fun v d H2 e2 hd p => by
  obtain ⟨ds, rfl, p1⟩ := p
  obtain ⟨a, xs, rfl, hs, hds⟩ := dpT hd
  refine ⟨a, xs, rfl, .inr (sqT_wo hs), fun l hl => ?_⟩
  exact q (.ref l) (.list ds) (upd H2 l (.lst xs)) (e2.trans (.new e2.j hl)) (.lst (sq_of (Wd.wo_at (Wd.notM e2.j hl) upd_same)) ((Wd.Le.new e2.j hl).dpAll hds)) (hp ds p1)
/-- the data of a slice -/
def cutD (ds : List PyData) (lo hi : Option Int) : List PyData := (ds.drop (HT.sIx ds.length 0 lo)).take (HT.sIx ds.length ds.length hi - HT.sIx ds.length 0 lo)
theorem dp_cut {H : Hp} {xs : List V} {ds : List PyData} (h : DpAll K H xs ds) (lo hi : Option Int) : DpAll K H (cutV xs lo hi) (cutD ds lo hi) := by
  unfold cutV cutD
  rw [dpAll_len h]
  exact dpAll_take _ (dpAll_drop _ h)
def EmO (W : Wd) (to : TO) (σ : L2.St) (H : Hp) (P : Option Int → Prop) : Prop := ∀ H1, W.Le H H1 → ∀ Q : Option Int → Hp → Prop, (∀ o H2, W.Le H1 H2 → P o → Q o H2) → to σ H1 Q
theorem emo_none {P : Option Int → Prop} (p : P none) : EmO W tNoPart σ H P := fun H1 e _ q => q none H1 (.refl e.j) p
theorem emo_some {P1 : Int → Prop} {P : Option Int → Prop} (h : Em W K te σ H (IsI P1)) (hp : ∀ i, P1 i → P (some i)) : EmO W (tPart te) σ H P := fun H1 e _ q => h H1 e _ fun v d H2 e2 hd p => by
  obtain ⟨i, rfl, pi⟩ := p
  cases dpI hd
  exact ⟨i, rfl, q (some i) H2 e2 (hp i pi)⟩
theorem em_slL {tl th : TO} {P1 : List PyData → Prop} {Pl Ph : Option Int → Prop} (h : Em W K te σ H (IsLs P1)) (hl : EmO W tl σ H Pl) (hh : EmO W th σ H Ph) (hp : ∀ ds lo hi, P1 ds → Pl lo → Ph hi → P (.list (cutD ds lo hi))) : Em W K (tSl (rSlL K) te tl th) σ H P := fun H1 e Q q => h H1 e _ fun v d H2 e2 hd p =>
  hl H2 (e.trans e2) _ fun lo H3 e3 p3 => hh H3 (e.trans (e2.trans e3)) _ fun hi H4 e4 p4 => by
    obtain ⟨ds, rfl, p1⟩ := p
    obtain ⟨a, xs, rfl, hs, hds⟩ := dpL ((e3.trans e4).dp hd)
    refine ⟨a, xs, rfl, sqL_wo hs, fun l hl => ?_⟩
    exact q (.ref l) _ (upd H4 l (.lst (cutV xs lo hi))) (e2.trans (e3.trans (e4.trans (.new e4.j hl)))) (.lst (sq_of (Wd.wo_at (Wd.notM e4.j hl) upd_same)) ((Wd.Le.new e4.j hl).dpAll (dp_cut hds lo hi))) (hp ds lo hi p1 p3 p4)
theorem em_slT {tl th : TO} {P1 : List PyData → Prop} {Pl Ph : Option Int → Prop} (h : Em W K te σ H (IsTp P1)) (hl : EmO W tl σ H Pl) (hh : EmO W th σ H Ph) (hp : ∀ ds lo hi, P1 ds → Pl lo → Ph hi → P (.tuple (cutD ds lo hi))) : Em W K (tSl (rSlA K) te tl th) σ H P := fun H1 e Q q => h H1 e _ fun v d H2 e2 hd p =>
  hl H2 (e.trans e2) _ fun lo H3 e3 p3 => hh H3 (e.trans (e2.trans e3)) _ fun hi H4 e4 p4 => by
    obtain ⟨ds, rfl, p1⟩ := p
    obtain ⟨a, xs, rfl, hs, hds⟩ := dpT ((e3.trans e4).dp hd)
    refine ⟨a, xs, rfl, sqT_wo hs, fun hw => ?_, fun _ l hl => ?_⟩
    · have e0 : cutD ds lo hi = ds := by
        unfold cutD
        rw [← dpAll_len hds, hw.1, hw.2, Nat.sub_zero, List.drop_zero, dpAll_len hds, List.take_length]
      refine q (.ref a) (.tuple ds) H4 (e2.trans (e3.trans e4)) (.tup hs hds) ?_
      have := hp ds lo hi p1 p3 p4
      rw [e0] at this
      exact this
    · exact q (.ref l) _ (upd H4 l (.tup (cutV xs lo hi))) (e2.trans (e3.trans (e4.trans (.new e4.j hl)))) (.tup (st_of (Wd.wo_at (Wd.notM e4.j hl) upd_same)) ((Wd.Le.new e4.j hl).dpAll (dp_cut hds lo hi))) (hp ds lo hi p1 p3 p4)
/-- t + u -/
theorem em_catT {P1 P2 : List PyData → Prop} (ha : Em W K ta σ H (IsTp P1)) (hb : Em W K tb σ H (IsTp P2)) (hp : ∀ ds es, P1 ds → P2 es → ds.length + es.length ≤ 20000 ∧ P (.tuple (ds ++ es))) : Em W K (tOp (rCatA K) ta tb) σ H P :=
  em_op ha hb fun x y dx dy H1 e hx px hy py Q q => by
    obtain ⟨ds, rfl, p1⟩ := px
    obtain ⟨es, rfl, p2⟩ := py
    obtain ⟨a, xs, rfl, hs, hds⟩ := dpT hx
    obtain ⟨b, ys, rfl, hs2, hds2⟩ := dpT hy
    obtain ⟨hl, hP⟩ := hp ds es p1 p2
    refine ⟨a, b, xs, ys, rfl, rfl, sqT_wo hs, sqT_wo hs2, sz_of (by rw [dpAll_len hds, dpAll_len hds2]; omega), fun h0 => ?_, fun _ h0 => ?_, fun _ _ p hp => ?_⟩
    · subst h0
      cases hds
      exact q _ _ H1 (.refl e.j) (.tup hs2 hds2) hP
    · subst h0
      cases hds2
      rw [List.append_nil] at hP
      exact q _ _ H1 (.refl e.j) (.tup hs hds) hP
    · exact q _ _ _ (.new e.j hp) (.tup (st_of (Wd.wo_at (Wd.notM e.j hp) upd_same)) ((Wd.Le.new e.j hp).dpAll (dpAll_append hds hds2))) hP
end
end Nt

namespace Nt
open PySem PySem.Spec PyProof.Rows L2
def topS (i : Nat) : Stmt := PySem.Challenge.pw_neithertells_k02_programs_at_their_bound.main.body.getD i (.Pass ⟨0, 0, 0, 0⟩)
abbrev s_is_integer : Stmt := topS 10
abbrev N_is_integer : List Str := (["thing"] : List Str)
theorem sc_is_integer : FnScope N_is_integer ["thing"] (defScope s_is_integer) := ⟨rfl, rfl, rfl, by decide +kernel, rfl, by decide +kernel, by decide +kernel⟩
abbrev s_is_one_of : Stmt := topS 11
abbrev N_is_one_of : List Str := (["thing", "names"] : List Str)
theorem sc_is_one_of : FnScope N_is_one_of ["thing", "names"] (defScope s_is_one_of) := ⟨rfl, rfl, rfl, by decide +kernel, rfl, by decide +kernel, by decide +kernel⟩
abbrev s_is_value : Stmt := topS 12
abbrev N_is_value : List Str := (["thing"] : List Str)
theorem sc_is_value : FnScope N_is_value ["thing"] (defScope s_is_value) := ⟨rfl, rfl, rfl, by decide +kernel, rfl, by decide +kernel, by decide +kernel⟩
abbrev s_is_term : Stmt := topS 13
abbrev N_is_term : List Str := (["thing"] : List Str)
theorem sc_is_term : FnScope N_is_term ["thing"] (defScope s_is_term) := ⟨rfl, rfl, rfl, by decide +kernel, rfl, by decide +kernel, by decide +kernel⟩
abbrev s_is_condition : Stmt := topS 14
abbrev N_is_condition : List Str := (["thing", "variable", "sign", "term"] : List Str)
theorem sc_is_condition : FnScope N_is_condition ["thing"] (defScope s_is_condition) := ⟨rfl, rfl, rfl, by decide +kernel, rfl, by decide +kernel, by decide +kernel⟩
abbrev s_is_set : Stmt := topS 15
abbrev N_is_set : List Str := (["parts"] : List Str)
theorem sc_is_set : FnScope N_is_set ["parts"] (defScope s_is_set) := ⟨rfl, rfl, rfl, by decide +kernel, rfl, by decide +kernel, by decide +kernel⟩
abbrev s_is_add : Stmt := topS 16
abbrev N_is_add : List Str := (["parts"] : List Str)
theorem sc_is_add : FnScope N_is_add ["parts"] (defScope s_is_add) := ⟨rfl, rfl, rfl, by decide +kernel, rfl, by decide +kernel, by decide +kernel⟩
abbrev s_is_wait : Stmt := topS 17
abbrev N_is_wait : List Str := (["parts"] : List Str)
theorem sc_is_wait : FnScope N_is_wait ["parts"] (defScope s_is_wait) := ⟨rfl, rfl, rfl, by decide +kernel, rfl, by decide +kernel, by decide +kernel⟩
abbrev s_is_ask : Stmt := topS 18
abbrev N_is_ask : List Str := (["parts"] : List Str)
theorem sc_is_ask : FnScope N_is_ask ["parts"] (defScope s_is_ask) := ⟨rfl, rfl, rfl, by decide +kernel, rfl, by decide +kernel, by decide +kernel⟩
abbrev s_is_answer : Stmt := topS 19
abbrev N_is_answer : List Str := (["parts"] : List Str)
theorem sc_is_answer : FnScope N_is_answer ["parts"] (defScope s_is_answer) := ⟨rfl, rfl, rfl, by decide +kernel, rfl, by decide +kernel, by decide +kernel⟩
abbrev s_is_one_term : Stmt := topS 20
abbrev N_is_one_term : List Str := (["parts"] : List Str)
theorem sc_is_one_term : FnScope N_is_one_term ["parts"] (defScope s_is_one_term) := ⟨rfl, rfl, rfl, by decide +kernel, rfl, by decide +kernel, by decide +kernel⟩
abbrev s_count_block : Stmt := topS 22
abbrev N_count_block : List Str := (["kind", "word", "parts", "depth", "bodies", "counts", "body"] : List Str)
theorem sc_count_block : FnScope N_count_block ["kind", "word", "parts", "depth"] (defScope s_count_block) := ⟨rfl, rfl, rfl, by decide +kernel, rfl, by decide +kernel, by decide +kernel⟩
abbrev s_count_statement : Stmt := topS 23
abbrev N_count_statement : List Str := (["kind", "thing", "depth", "word", "parts", "check"] : List Str)
theorem sc_count_statement : FnScope N_count_statement ["kind", "thing", "depth"] (defScope s_count_statement) := ⟨rfl, rfl, rfl, by decide +kernel, rfl, by decide +kernel, by decide +kernel⟩
abbrev s_count_body : Stmt := topS 24
abbrev N_count_body : List Str := (["kind", "thing", "depth", "counts", "statement"] : List Str)
theorem sc_count_body : FnScope N_count_body ["kind", "thing", "depth"] (defScope s_count_body) := ⟨rfl, rfl, rfl, by decide +kernel, rfl, by decide +kernel, by decide +kernel⟩
abbrev s_is_program : Stmt := topS 25
abbrev N_is_program : List Str := (["thing", "count"] : List Str)
theorem sc_is_program : FnScope N_is_program ["thing"] (defScope s_is_program) := ⟨rfl, rfl, rfl, by decide +kernel, rfl, by decide +kernel, by decide +kernel⟩
abbrev s__law_bag : Stmt := topS 27
abbrev N__law_bag : List Str := (["_law_script", "_law_k", "_law_cell", "_law_state"] : List Str)
theorem sc__law_bag : FnScope N__law_bag ["_law_script", "_law_k"] (defScope s__law_bag) := ⟨rfl, rfl, rfl, by decide +kernel, rfl, by decide +kernel, by decide +kernel⟩
abbrev s__law_draw : Stmt := topS 28
abbrev N__law_draw : List Str := (["_law_bag_here", "_law_many", "_law_found"] : List Str)
theorem sc__law_draw : FnScope N__law_draw ["_law_bag_here", "_law_many"] (defScope s__law_draw) := ⟨rfl, rfl, rfl, by decide +kernel, rfl, by decide +kernel, by decide +kernel⟩
abbrev s__law_large : Stmt := topS 29
abbrev N__law_large : List Str := (["_law_bag_here", "_law_many", "_law_number", "_law_room"] : List Str)
theorem sc__law_large : FnScope N__law_large ["_law_bag_here", "_law_many"] (defScope s__law_large) := ⟨rfl, rfl, rfl, by decide +kernel, rfl, by decide +kernel, by decide +kernel⟩
abbrev s__law_steps : Stmt := topS 30
abbrev N__law_steps : List Str := (["_law_bag_here"] : List Str)
theorem sc__law_steps : FnScope N__law_steps ["_law_bag_here"] (defScope s__law_steps) := ⟨rfl, rfl, rfl, by decide +kernel, rfl, by decide +kernel, by decide +kernel⟩
abbrev s__law_term : Stmt := topS 31
abbrev N__law_term : List Str := (["_law_bag_here", "_law_value"] : List Str)
theorem sc__law_term : FnScope N__law_term ["_law_bag_here"] (defScope s__law_term) := ⟨rfl, rfl, rfl, by decide +kernel, rfl, by decide +kernel, by decide +kernel⟩
abbrev s__law_condition : Stmt := topS 32
abbrev N__law_condition : List Str := (["_law_bag_here"] : List Str)
theorem sc__law_condition : FnScope N__law_condition ["_law_bag_here"] (defScope s__law_condition) := ⟨rfl, rfl, rfl, by decide +kernel, rfl, by decide +kernel, by decide +kernel⟩
abbrev s__law_simple : Stmt := topS 33
abbrev N__law_simple : List Str := (["_law_bag_here", "_law_kind_here", "_law_way", "_law_variable"] : List Str)
theorem sc__law_simple : FnScope N__law_simple ["_law_bag_here", "_law_kind_here"] (defScope s__law_simple) := ⟨rfl, rfl, rfl, by decide +kernel, rfl, by decide +kernel, by decide +kernel⟩
abbrev s__law_kind : Stmt := topS 34
abbrev N__law_kind : List Str := (["_law_bag_here"] : List Str)
theorem sc__law_kind : FnScope N__law_kind ["_law_bag_here"] (defScope s__law_kind) := ⟨rfl, rfl, rfl, by decide +kernel, rfl, by decide +kernel, by decide +kernel⟩
abbrev s__law_nested : Stmt := topS 35
abbrev N__law_nested : List Str := (["_law_bag_here", "_law_deep", "_law_inner", "_law_body", "_law_turn", "_law_condition_here", "_law_way"] : List Str)
theorem sc__law_nested : FnScope N__law_nested ["_law_bag_here", "_law_deep", "_law_inner"] (defScope s__law_nested) := ⟨rfl, rfl, rfl, by decide +kernel, rfl, by decide +kernel, by decide +kernel⟩
abbrev s__law_edge : Stmt := topS 36
abbrev N__law_edge : List Str := (["_law_bag_here", "_law_way", "_law_off"] : List Str)
theorem sc__law_edge : FnScope N__law_edge ["_law_bag_here"] (defScope s__law_edge) := ⟨rfl, rfl, rfl, by decide +kernel, rfl, by decide +kernel, by decide +kernel⟩
abbrev s_law : Stmt := topS 37
abbrev N_law : List Str := (["_law_script", "_law_k", "_law_bag_here", "_law_kind_here", "_law_deep", "_law_inner", "_law_body", "_law_many", "_law_ahead", "_law_flat", "_law_whole", "_law_due", "_law_found", "_law_edge_here", "_law_good", "_law_turn"] : List Str)
theorem sc_law : FnScope N_law ["_law_script"] (defScope s_law) := ⟨rfl, rfl, rfl, by decide +kernel, rfl, by decide +kernel, by decide +kernel⟩
structure Txt (w : World) (K : PySem.W.Frag) (mg : Str → Option Value) : Prop where
  m_range : mg "range" = none
  m_isinstance : mg "isinstance" = none
  m_int : mg "int" = none
  m_str : mg "str" = none
  m_len : mg "len" = none
  m_sum : mg "sum" = none
  m_abs : mg "abs" = none
  m_max : mg "max" = none
  m_bool : mg "bool" = none
  m_tuple : mg "tuple" = none
  m_min : mg "min" = none
  c_MOST_STATEMENTS : ∃ t, mg "MOST_STATEMENTS" = some (.int 24 t)
  c_MOST_DEPTH : ∃ t, mg "MOST_DEPTH" = some (.int 4 t)
  c_LONGEST_WAIT : ∃ t, mg "LONGEST_WAIT" = some (.int 1000000000000000000000000000000 t)
  c_SIZE : ∃ t, mg "SIZE" = some (.int 16 t)
  g_VARIABLES : mg "VARIABLES" = some (.ref (He.ga K "VARIABLES"))
  t_VARIABLES : ∀ H : Hp, SqT K H (He.ga K "VARIABLES") [.str "a", .str "b"]
  g_COMPARISONS : mg "COMPARISONS" = some (.ref (He.ga K "COMPARISONS"))
  t_COMPARISONS : ∀ H : Hp, SqT K H (He.ga K "COMPARISONS") [.str "==", .str "!=", .str "<"]
  g_DIRECTIONS : mg "DIRECTIONS" = some (.ref (He.ga K "DIRECTIONS"))
  t_DIRECTIONS : ∀ H : Hp, SqT K H (He.ga K "DIRECTIONS") [.str "+", .str "-", .str "="]
  g_WORDS : mg "WORDS" = some (.ref (He.ga K "WORDS"))
  d_WORDS : DTab K w (He.ga K "WORDS") [("teller", .ref (tabAt "WORDS" "teller" K)), ("collector", .ref (tabAt "WORDS" "collector" K))]
  t_WORDS_teller : ∀ H : Hp, SqT K H (tabAt "WORDS" "teller" K) [.str "set", .str "add", .str "wait", .str "ask", .str "answer"]
  t_WORDS_collector : ∀ H : Hp, SqT K H (tabAt "WORDS" "collector" K) [.str "set", .str "add", .str "wait", .str "grow", .str "list"]
  g_BODIES : mg "BODIES" = some (.ref (He.ga K "BODIES"))
  d_BODIES : DTab K w (He.ga K "BODIES") [("if", .int 2), ("while", .int 1)]
  g_CHECKS : mg "CHECKS" = some (.ref (He.ga K "CHECKS"))
  d_CHECKS : DTab K w (He.ga K "CHECKS") [("set", .ref (He.ga K "is_set")), ("add", .ref (He.ga K "is_add")), ("wait", .ref (He.ga K "is_wait")), ("ask", .ref (He.ga K "is_ask")), ("answer", .ref (He.ga K "is_answer")), ("grow", .ref (He.ga K "is_one_term")), ("list", .ref (He.ga K "is_one_term"))]
  g_is_integer : mg "is_integer" = some (.ref (He.ga K "is_integer"))
  F_is_integer : ∃ fd, FunD K "is_integer" "is_integer" (defArgs s_is_integer) (defBody s_is_integer) (defScope s_is_integer) [] [] (He.ga K "is_integer") fd
  g_is_one_of : mg "is_one_of" = some (.ref (He.ga K "is_one_of"))
  F_is_one_of : ∃ fd, FunD K "is_one_of" "is_one_of" (defArgs s_is_one_of) (defBody s_is_one_of) (defScope s_is_one_of) [] [] (He.ga K "is_one_of") fd
  g_is_value : mg "is_value" = some (.ref (He.ga K "is_value"))
  F_is_value : ∃ fd, FunD K "is_value" "is_value" (defArgs s_is_value) (defBody s_is_value) (defScope s_is_value) [] [] (He.ga K "is_value") fd
  g_is_term : mg "is_term" = some (.ref (He.ga K "is_term"))
  F_is_term : ∃ fd, FunD K "is_term" "is_term" (defArgs s_is_term) (defBody s_is_term) (defScope s_is_term) [] [] (He.ga K "is_term") fd
  g_is_condition : mg "is_condition" = some (.ref (He.ga K "is_condition"))
  F_is_condition : ∃ fd, FunD K "is_condition" "is_condition" (defArgs s_is_condition) (defBody s_is_condition) (defScope s_is_condition) [] [] (He.ga K "is_condition") fd
  g_is_set : mg "is_set" = some (.ref (He.ga K "is_set"))
  F_is_set : ∃ fd, FunD K "is_set" "is_set" (defArgs s_is_set) (defBody s_is_set) (defScope s_is_set) [] [] (He.ga K "is_set") fd
  g_is_add : mg "is_add" = some (.ref (He.ga K "is_add"))
  F_is_add : ∃ fd, FunD K "is_add" "is_add" (defArgs s_is_add) (defBody s_is_add) (defScope s_is_add) [] [] (He.ga K "is_add") fd
  g_is_wait : mg "is_wait" = some (.ref (He.ga K "is_wait"))
  F_is_wait : ∃ fd, FunD K "is_wait" "is_wait" (defArgs s_is_wait) (defBody s_is_wait) (defScope s_is_wait) [] [] (He.ga K "is_wait") fd
  g_is_ask : mg "is_ask" = some (.ref (He.ga K "is_ask"))
  F_is_ask : ∃ fd, FunD K "is_ask" "is_ask" (defArgs s_is_ask) (defBody s_is_ask) (defScope s_is_ask) [] [] (He.ga K "is_ask") fd
  g_is_answer : mg "is_answer" = some (.ref (He.ga K "is_answer"))
  F_is_answer : ∃ fd, FunD K "is_answer" "is_answer" (defArgs s_is_answer) (defBody s_is_answer) (defScope s_is_answer) [] [] (He.ga K "is_answer") fd
  g_is_one_term : mg "is_one_term" = some (.ref (He.ga K "is_one_term"))
  F_is_one_term : ∃ fd, FunD K "is_one_term" "is_one_term" (defArgs s_is_one_term) (defBody s_is_one_term) (defScope s_is_one_term) [] [] (He.ga K "is_one_term") fd
  g_count_block : mg "count_block" = some (.ref (He.ga K "count_block"))
  F_count_block : ∃ fd, FunD K "count_block" "count_block" (defArgs s_count_block) (defBody s_count_block) (defScope s_count_block) [] [] (He.ga K "count_block") fd
  g_count_statement : mg "count_statement" = some (.ref (He.ga K "count_statement"))
  F_count_statement : ∃ fd, FunD K "count_statement" "count_statement" (defArgs s_count_statement) (defBody s_count_statement) (defScope s_count_statement) [] [] (He.ga K "count_statement") fd
  g_count_body : mg "count_body" = some (.ref (He.ga K "count_body"))
  F_count_body : ∃ fd, FunD K "count_body" "count_body" (defArgs s_count_body) (defBody s_count_body) (defScope s_count_body) [] [] (He.ga K "count_body") fd
  g_is_program : mg "is_program" = some (.ref (He.ga K "is_program"))
  F_is_program : ∃ fd, FunD K "is_program" "is_program" (defArgs s_is_program) (defBody s_is_program) (defScope s_is_program) [] [] (He.ga K "is_program") fd
  g__law_bag : mg "_law_bag" = some (.ref (He.ga K "_law_bag"))
  F__law_bag : ∃ fd, FunD K "_law_bag" "_law_bag" (defArgs s__law_bag) (defBody s__law_bag) (defScope s__law_bag) [] [] (He.ga K "_law_bag") fd
  g__law_draw : mg "_law_draw" = some (.ref (He.ga K "_law_draw"))
  F__law_draw : ∃ fd, FunD K "_law_draw" "_law_draw" (defArgs s__law_draw) (defBody s__law_draw) (defScope s__law_draw) [] [] (He.ga K "_law_draw") fd
  g__law_large : mg "_law_large" = some (.ref (He.ga K "_law_large"))
  F__law_large : ∃ fd, FunD K "_law_large" "_law_large" (defArgs s__law_large) (defBody s__law_large) (defScope s__law_large) [] [] (He.ga K "_law_large") fd
  g__law_steps : mg "_law_steps" = some (.ref (He.ga K "_law_steps"))
  F__law_steps : ∃ fd, FunD K "_law_steps" "_law_steps" (defArgs s__law_steps) (defBody s__law_steps) (defScope s__law_steps) [] [] (He.ga K "_law_steps") fd
  g__law_term : mg "_law_term" = some (.ref (He.ga K "_law_term"))
  F__law_term : ∃ fd, FunD K "_law_term" "_law_term" (defArgs s__law_term) (defBody s__law_term) (defScope s__law_term) [] [] (He.ga K "_law_term") fd
  g__law_condition : mg "_law_condition" = some (.ref (He.ga K "_law_condition"))
  F__law_condition : ∃ fd, FunD K "_law_condition" "_law_condition" (defArgs s__law_condition) (defBody s__law_condition) (defScope s__law_condition) [] [] (He.ga K "_law_condition") fd
  g__law_simple : mg "_law_simple" = some (.ref (He.ga K "_law_simple"))
  F__law_simple : ∃ fd, FunD K "_law_simple" "_law_simple" (defArgs s__law_simple) (defBody s__law_simple) (defScope s__law_simple) [] [] (He.ga K "_law_simple") fd
  g__law_kind : mg "_law_kind" = some (.ref (He.ga K "_law_kind"))
  F__law_kind : ∃ fd, FunD K "_law_kind" "_law_kind" (defArgs s__law_kind) (defBody s__law_kind) (defScope s__law_kind) [] [] (He.ga K "_law_kind") fd
  g__law_nested : mg "_law_nested" = some (.ref (He.ga K "_law_nested"))
  F__law_nested : ∃ fd, FunD K "_law_nested" "_law_nested" (defArgs s__law_nested) (defBody s__law_nested) (defScope s__law_nested) [] [] (He.ga K "_law_nested") fd
  g__law_edge : mg "_law_edge" = some (.ref (He.ga K "_law_edge"))
  F__law_edge : ∃ fd, FunD K "_law_edge" "_law_edge" (defArgs s__law_edge) (defBody s__law_edge) (defScope s__law_edge) [] [] (He.ga K "_law_edge") fd
  g_law : mg "law" = some (.ref (He.ga K "law"))
  F_law : ∃ fd, FunD K "law" "law" (defArgs s_law) (defBody s_law) (defScope s_law) [] [] (He.ga K "law") fd
end Nt

namespace Nt
open PySem PySem.Spec PyProof.Rows L2 Evl
/-! ### programs.py: the mirror -/
def vars : List Str := ["a", "b"]
def comps : List Str := ["==", "!=", "<"]
def dirs : List Str := ["+", "-", "="]
def isI : PyData → Bool
  | .int _ => true
  | _ => false
def isOne (ns : List Str) : PyData → Bool
  | .str s => ns.contains s
  | _ => false
def isVal : PyData → Bool
  | .int i => decide (0 ≤ i) && decide (i < 16)
  | _ => false
def isTerm (d : PyData) : Bool := isVal d || isOne vars d
def isCond : PyData → Bool
  | .tuple [v, s, t] => isOne vars v && (isOne comps s && isTerm t)
  | _ => false
def pSet : List PyData → Bool
  | [v, x] => isOne vars v && isVal x
  | _ => false
def pAdd : List PyData → Bool
  | [v, x] => isOne vars v && isTerm x
  | _ => false
def pWait : List PyData → Bool
  | [.int i] => decide (1 ≤ i) && decide (i ≤ 1000000000000000000000000000000)
  | _ => false
def pAsk : List PyData → Bool
  | [s, t, v] => isOne dirs s && (isTerm t && isOne vars v)
  | _ => false
def pAns : List PyData → Bool
  | [.int i] => decide (0 ≤ i) && decide (i ≤ 1)
  | _ => false
def pTerm : List PyData → Bool
  | [t] => isTerm t
  | _ => false
theorem in_strs (s : Str) (ns : List Str) : inV (.str s) (ns.map V.str) = ns.contains s := by
  unfold inV
  rw [List.contains_eq_any_beq, List.any_map]
  congr 1
  funext y
  show eqV (V.str y) (V.str s) = (s == y)
  simp only [eqV]
  by_cases h : y = s
  · subst h; simp
  · have h1 : (y == s) = false := beq_eq_false_iff_ne.mpr h
    have h2 : (s == y) = false := beq_eq_false_iff_ne.mpr fun q => h q.symm
    rw [h1, h2]
theorem flat_strs (ns : List Str) : (ns.map V.str).all flatV = true := by
  rw [List.all_map]
  exact List.all_eq_true.mpr fun _ _ => rfl
def spOne (K : PySem.W.Frag) : Sp := fun vs H Q _ => ∃ (v : V) (d : PyData) (a : Addr) (ns : List Str), vs = [v, .ref a] ∧ Dp K H v d ∧ SqT K H a (ns.map V.str) ∧ ∀ H', Same H H' → Q (.bl (isOne ns d)) H'
theorem spvOne {K : PySem.W.Frag} {v : V} {d : PyData} {a : Addr} {ns : List Str} {H : Hp} (h : Dp K H v d) (ha : SqT K H a (ns.map V.str)) : SpV (spOne K) [v, .ref a] H (.bl (isOne ns d)) := fun H1 e Q q E =>
  ⟨v, d, a, ns, rfl, dp_mono e h, ex_t e ha, fun H' e' => q H' e'⟩
def spL (K : PySem.W.Frag) (f : List PyData → Bool) : Sp := fun vs H Q _ => ∃ (a : Addr) (xs : List V) (ds : List PyData), vs = [.ref a] ∧ SqL K H a xs ∧ DpAll K H xs ds ∧ ∀ H', Same H H' → Q (.bl (f ds)) H'
section
variable {P : Program} {w : World} {K : PySem.W.Frag} {mg : Str → Option Value} {base : Heap}
theorem ok_is_integer (T : Txt w K mg) : Def P w K mg base CX0 1 "is_integer" ["thing"] (sp1 K fun d => .bl (isI d)) := by
  refine mkDef T.F_is_integer T.g_is_integer sc_is_integer (fun _ _ _ _ _ _ us hl => match us, hl with | [_], _ => rfl) (fun vs H Q E h => ?_) (fun cdv A outer s H vs Q E hr h => ?_)
  · obtain ⟨v, d, rfl, _⟩ := h; rfl
  · obtain ⟨v, d, rfl, hd, k⟩ := h
    refine ⟨_, (PSs.nox (pss_one (ps_ret (pe_and (pe_callB call_isi (by rfl) T.m_isinstance boot_isinstance (pa_cons (pv 0) (pa_cons (pe_bltn (v := .ty "int") rfl T.m_int boot_int rfl) pa_nil))) (pe_one (pe_not (pe_callB call_isi (by rfl) T.m_isinstance boot_isinstance (pa_cons (pv 0) (pa_cons (pe_bltn (v := .ty "bool") rfl T.m_bool boot_bool rfl) pa_nil))))))))), ?_⟩
    refine s_ret (ev_is (ev_andV (ev_cb (ea_cons (ev_var rfl) (ea_cons ev_c ea_nil)) (isi_d hd (kit_int d))) fun _ => ev_notV (ev_cb (ea_cons (ev_var rfl) (ea_cons ev_c ea_nil)) (isi_d hd (kit_bool d)))) ?_) k
    cases d <;> rfl
theorem ok_is_one_of (T : Txt w K mg) : Def P w K mg base CX0 1 "is_one_of" ["thing", "names"] (spOne K) := by
  refine mkDef T.F_is_one_of T.g_is_one_of sc_is_one_of (fun _ _ _ _ _ _ us hl => match us, hl with | [_, _], _ => rfl) (fun vs H Q E h => ?_) (fun cdv A outer s H vs Q E hr h => ?_)
  · obtain ⟨v, d, a, ns, rfl, _⟩ := h; rfl
  · obtain ⟨v, d, a, ns, rfl, hd, ha, k⟩ := h
    refine ⟨_, (PSs.nox (pss_one (ps_ret (pe_and (pe_callB call_isi (by rfl) T.m_isinstance boot_isinstance (pa_cons (pv 0) (pa_cons (pe_bltn (v := .ty "str") rfl T.m_str boot_str rfl) pa_nil))) (pe_one (pe_cmpR op_in_seq (pv 0) (pv 1) (by rfl))))))), ?_⟩
    refine s_ret (ev_is (ev_andV (b := isOne ns d) (ev_cb (ea_cons (ev_var rfl) (ea_cons ev_c ea_nil)) (isi_d hd (kit_str d))) fun hs => ?_) ?_) k
    · cases hd with
      | str s => exact ev_is (ev_op (ev_var rfl) (ev_var rfl) (rv_isT ha rfl (flat_strs ns))) (by rw [in_strs]; rfl)
      | _ => cases hs
    · cases d <;> rfl
theorem ok_is_value (T : Txt w K mg) : Def P w K mg base CX0 2 "is_value" ["thing"] (sp1 K fun d => .bl (isVal d)) := by
  have D_is_integer := ok_is_integer (P := P) (base := base) T
  refine mkDef T.F_is_value T.g_is_value sc_is_value (fun _ _ _ _ _ _ us hl => match us, hl with | [_], _ => rfl) (fun vs H Q E h => ?_) (fun cdv A outer s H vs Q E hr h => ?_)
  · obtain ⟨v, d, rfl, _⟩ := h; rfl
  · obtain ⟨v, d, rfl, hd, k⟩ := h
    refine ⟨_, (PSs.nox (pss_one (ps_ret (pe_and (pe_callD D_is_integer (hr.mono (by omega)) rfl pass0 (pa_cons (pv 0) pa_nil)) (pe_one (pe_chain op_le op_lt pe_int (pv 0) (pe_gint rfl T.c_SIZE))))))), ?_⟩
    refine s_ret (ev_is (ev_andV (b := isVal d) (ev_call (ea_cons (ev_var rfl) ea_nil) (spv1 hd)) fun hs => ?_) ?_) k
    · cases hd with
      | int i => exact ev_chain ev_c (ev_var rfl) rv_le (fun _ => ev_c) (fun _ => rv_lt)
      | _ => cases hs
    · cases d <;> rfl
theorem ok_is_term (T : Txt w K mg) : Def P w K mg base CX0 3 "is_term" ["thing"] (sp1 K fun d => .bl (isTerm d)) := by
  have D_is_value := ok_is_value (P := P) (base := base) T
  have D_is_one_of := ok_is_one_of (P := P) (base := base) T
  refine mkDef T.F_is_term T.g_is_term sc_is_term (fun _ _ _ _ _ _ us hl => match us, hl with | [_], _ => rfl) (fun vs H Q E h => ?_) (fun cdv A outer s H vs Q E hr h => ?_)
  · obtain ⟨v, d, rfl, _⟩ := h; rfl
  · obtain ⟨v, d, rfl, hd, k⟩ := h
    refine ⟨_, (PSs.nox (pss_one (ps_ret (pe_or (pe_callD D_is_value (hr.mono (by omega)) rfl pass0 (pa_cons (pv 0) pa_nil)) (pe_one (pe_callD D_is_one_of (hr.mono (by omega)) rfl pass0 (pa_cons (pv 0) (pa_cons (pe_gref rfl T.g_VARIABLES) pa_nil)))))))), ?_⟩
    exact s_ret (ev_orV (ev_call (ea_cons (ev_var rfl) ea_nil) (spv1 hd)) fun _ => ev_call (ea_cons (ev_var rfl) (ea_cons ev_c ea_nil)) (spvOne (ns := vars) hd (T.t_VARIABLES _))) k
end

end Nt

namespace Nt
open PySem PySem.Spec PyProof.Rows L2 Evl
theorem len1 {α : Type} {xs : List α} (h : xs.length = 1) : ∃ a, xs = [a] := by
  match xs, h with
  | [a], _ => exact ⟨a, rfl⟩
theorem len2 {α : Type} {xs : List α} (h : xs.length = 2) : ∃ a b, xs = [a, b] := by
  match xs, h with
  | [a, b], _ => exact ⟨a, b, rfl⟩
theorem len3 {α : Type} {xs : List α} (h : xs.length = 3) : ∃ a b c, xs = [a, b, c] := by
  match xs, h with
  | [a, b, c], _ => exact ⟨a, b, c, rfl⟩
section
variable {K : PySem.W.Frag} {H : Hp}
theorem dp1 {x : V} {ds : List PyData} (h : DpAll K H [x] ds) : ∃ d, ds = [d] ∧ Dp K H x d := by
  cases h with
  | cons h1 h => cases h; exact ⟨_, rfl, h1⟩
theorem dp2 {x y : V} {ds : List PyData} (h : DpAll K H [x, y] ds) : ∃ d e, ds = [d, e] ∧ Dp K H x d ∧ Dp K H y e := by
  cases h with
  | cons h1 h =>
    obtain ⟨e, rfl, h2⟩ := dp1 h
    exact ⟨_, _, rfl, h1, h2⟩
theorem dp3 {x y z : V} {ds : List PyData} (h : DpAll K H [x, y, z] ds) : ∃ d e f, ds = [d, e, f] ∧ Dp K H x d ∧ Dp K H y e ∧ Dp K H z f := by
  cases h with
  | cons h1 h =>
    obtain ⟨e, f, rfl, h2, h3⟩ := dp2 h
    exact ⟨_, _, _, rfl, h1, h2, h3⟩
theorem dp_tupI {v : V} {d : PyData} (h : Dp K H v d) (ht : isTup d = true) : ∃ a xs ds, v = .ref a ∧ d = .tuple ds ∧ SqT K H a xs ∧ DpAll K H xs ds := by
  cases h with
  | tup h1 h2 => exact ⟨_, _, _, rfl, rfl, h1, h2⟩
  | _ => cases ht
theorem dp_strI {v : V} {d : PyData} (h : Dp K H v d) (ht : isStr d = true) : ∃ s, v = .str s ∧ d = .str s := by
  cases h with
  | str s => exact ⟨s, rfl, rfl⟩
  | _ => cases ht
end
theorem isCond_not {d : PyData} (h : isTup d = false) : isCond d = false := by
  cases d <;> first | rfl | cases h
theorem isCond_len {ds : List PyData} (h : ¬ ds.length = 3) : isCond (.tuple ds) = false := by
  match ds, h with
  | [], _ => rfl
  | [_], _ => rfl
  | [_, _], _ => rfl
  | [_, _, _], h => exact absurd rfl h
  | _ :: _ :: _ :: _ :: _, _ => rfl
theorem pSet_len {ds : List PyData} (h : ¬ ds.length = 2) : pSet ds = false := by
  match ds, h with
  | [], _ => rfl
  | [_], _ => rfl
  | [_, _], h => exact absurd rfl h
  | _ :: _ :: _ :: _, _ => rfl
theorem pAdd_len {ds : List PyData} (h : ¬ ds.length = 2) : pAdd ds = false := by
  match ds, h with
  | [], _ => rfl
  | [_], _ => rfl
  | [_, _], h => exact absurd rfl h
  | _ :: _ :: _ :: _, _ => rfl
theorem pAsk_len {ds : List PyData} (h : ¬ ds.length = 3) : pAsk ds = false := by
  match ds, h with
  | [], _ => rfl
  | [_], _ => rfl
  | [_, _], _ => rfl
  | [_, _, _], h => exact absurd rfl h
  | _ :: _ :: _ :: _ :: _, _ => rfl
theorem pWait_len {ds : List PyData} (h : ¬ ds.length = 1) : pWait ds = false := by
  match ds, h with
  | [], _ => rfl
  | [_], h => exact absurd rfl h
  | x :: _ :: _, _ => cases x <;> rfl
theorem pAns_len {ds : List PyData} (h : ¬ ds.length = 1) : pAns ds = false := by
  match ds, h with
  | [], _ => rfl
  | [_], h => exact absurd rfl h
  | x :: _ :: _, _ => cases x <;> rfl
theorem pTerm_len {ds : List PyData} (h : ¬ ds.length = 1) : pTerm ds = false := by
  match ds, h with
  | [], _ => rfl
  | [_], h => exact absurd rfl h
  | _ :: _ :: _, _ => rfl
theorem at0 {x : V} {xs : List V} : atI (x :: xs) 0 = some x := atI_nat (j := 0) rfl
theorem at1 {x y : V} {xs : List V} : atI (x :: y :: xs) 1 = some y := atI_nat (j := 1) rfl
theorem at2 {x y z : V} {xs : List V} : atI (x :: y :: z :: xs) 2 = some z := atI_nat (j := 2) rfl
theorem int_eq (n m : Nat) : (decide (V.int (n : Int) = V.int (m : Int))) = decide (n = m) := by
  by_cases h : n = m
  · subst h; simp
  · rw [decide_eq_false h, decide_eq_false]
    intro q; injection q with q; omega
theorem int_ne (n m : Nat) : (!decide (V.int (n : Int) = V.int (m : Int))) = !decide (n = m) := by rw [int_eq]
theorem and_len {f : List PyData → Bool} {ds : List PyData} {n : Nat} (h : ¬ ds.length = n → f ds = false) : V.bl (decide (ds.length = n) && f ds) = .bl (f ds) := by
  by_cases hn : ds.length = n
  · rw [decide_eq_true hn]; rfl
  · rw [h hn, Bool.and_false]
section
variable {K : PySem.W.Frag} {H : Hp} {σ : L2.St} {a : Addr} {xs : List V} {ds : List PyData} {t : TE}
/-- len(parts) == n and .. -/
theorem ev_lenAnd {n : Nat} {f : List PyData → Bool} {i : Nat} (h0 : σ[i]? = some (some (.ref a))) (hx : SqL K H a xs) (ha : DpAll K H xs ds) (hf : ¬ ds.length = n → f ds = false) (h : ds.length = n → Ev t σ H (.bl (f ds))) :
    Ev (tAndV (tOp rEq (tCB (rLenS K) (tCons (tVar i) tNil)) (tC (.int (n : Nat)))) t) σ H (.bl (f ds)) := by
  have hn := dpAll_len ha
  refine ev_is (ev_andV (a := decide (ds.length = n)) (b := f ds) (ev_is (ev_op (ev_cb (ea_cons (ev_var h0) ea_nil) (rc_lenL hx)) ev_c (rv_eq rfl)) (by rw [int_eq, hn])) fun hs => h (of_decide_eq_true hs)) (and_len hf)
end

end Nt

namespace Nt
open PySem PySem.Spec PyProof.Rows L2 Evl
section
variable {P : Program} {w : World} {K : PySem.W.Frag} {mg : Str → Option Value} {base : Heap}
theorem ok_is_condition (T : Txt w K mg) : Def P w K mg base CX0 4 "is_condition" ["thing"] (sp1 K fun d => .bl (isCond d)) := by
  have D_is_term := ok_is_term (P := P) (base := base) T
  have D_is_one_of := ok_is_one_of (P := P) (base := base) T
  refine mkDef T.F_is_condition T.g_is_condition sc_is_condition (fun _ _ _ _ _ _ us hl => match us, hl with | [_], _ => rfl) (fun vs H Q E h => ?_) (fun cdv A outer s H vs Q E hr h => ?_)
  · obtain ⟨v, d, rfl, _⟩ := h; rfl
  · obtain ⟨v, d, rfl, hd, k⟩ := h
    have k : ∀ H', Same H H' → Q (.bl (isCond d)) H' := k
    refine ⟨_, (PSs.nox (pss_cons (ps_if (PW.pt (pw_or (pt_not (pt_val (pe_callB call_isi (by rfl) T.m_isinstance boot_isinstance (pa_cons (pv 0) (pa_cons (pe_bltn (v := .ty "tuple") rfl T.m_tuple boot_tuple rfl) pa_nil))))) (pw_or1 (pt_cmpR op_ne (pe_callB call_len_seq (by rfl) T.m_len boot_len (pa_cons (pv 0) pa_nil)) pe_int (nomark _))))) (pss_one (ps_ret pe_bl)) pss_nil)
      (pss_cons (ps_asg (pv 0) (pg_tup (n := 3) rfl (pgs_cons (pg_name (i := 1) sc_is_condition.nd rfl (Or.inl rfl)) (pgs_cons (pg_name (i := 2) sc_is_condition.nd rfl (Or.inl rfl)) (pgs_cons (pg_name (i := 3) sc_is_condition.nd rfl (Or.inl rfl)) pgs_nil)))))
      (pss_one (ps_ret (pe_and (pe_callD D_is_one_of (hr.mono (by omega)) rfl pass0 (pa_cons (pv 1) (pa_cons (pe_gref rfl T.g_VARIABLES) pa_nil))) (pe_and (pe_callD D_is_one_of (hr.mono (by omega)) rfl pass0 (pa_cons (pv 2) (pa_cons (pe_gref rfl T.g_COMPARISONS) pa_nil))) (pe_one (pe_callD D_is_term (hr.mono (by omega)) rfl pass0 (pa_cons (pv 3) pa_nil)))))))))), ?_⟩
    cases ht : isTup d with
    | false =>
      refine q_when (b := true) (et_or (b := true) (et_not (et_B (ev_cb (ea_cons (ev_var rfl) (ea_cons ev_c ea_nil)) (isi_d hd ((kit_tup d).trans (congrArg some ht)))))) fun q => by cases q) (fun _ H1 e => s_ret ev_c fun H2 e2 => ?_) fun q => by cases q
      have := k H2 (e.trans e2)
      rw [isCond_not ht] at this
      exact this
    | true =>
      obtain ⟨a, xs, ds, rfl, rfl, hx, ha⟩ := dp_tupI hd ht
      have hn := dpAll_len ha
      refine q_when (et_or (b := !decide (xs.length = 3)) (et_not (et_B (ev_cb (ea_cons (ev_var rfl) (ea_cons ev_c ea_nil)) (isi_d hd (kit_tup _))))) fun _ => et_is (et_test (ev_op (ev_cb (ea_cons (ev_var rfl) ea_nil) (rc_lenT hx)) ev_c (rv_ne rfl))) (int_ne xs.length 3)) ?_ ?_
      · intro hb H1 e
        have h3 : ¬ ds.length = 3 := fun q => by rw [← hn] at q; rw [q] at hb; cases hb
        refine s_ret ev_c fun H2 e2 => ?_
        have := k H2 (e.trans e2)
        rw [isCond_len h3] at this
        exact this
      · intro hb H1 e
        have h3 : xs.length = 3 := by
          by_cases q : xs.length = 3
          · exact q
          · rw [decide_eq_false q] at hb; cases hb
        obtain ⟨x, y, z, rfl⟩ := len3 h3
        obtain ⟨dx, dy, dz, rfl, hx1, hx2, hx3⟩ := dp3 ha
        refine ⟨_, rfl, a, _, rfl, ex_t e hx, rfl, _, _, rfl, _, _, rfl, _, _, rfl, rfl, ?_⟩
        exact s_ret (ev_andV (ev_call (ea_cons (ev_var rfl) (ea_cons ev_c ea_nil)) (spvOne (ns := vars) (dp_mono e hx1) (T.t_VARIABLES _))) fun _ =>
            ev_andV (ev_call (ea_cons (ev_var rfl) (ea_cons ev_c ea_nil)) (spvOne (ns := comps) (dp_mono e hx2) (T.t_COMPARISONS _))) fun _ => ev_call (ea_cons (ev_var rfl) ea_nil) (spv1 (dp_mono e hx3))) fun H2 e2 => k H2 (e.trans e2)
theorem ok_is_set (T : Txt w K mg) : Def P w K mg base CX0 3 "is_set" ["parts"] (spL K pSet) := by
  have D_is_value := ok_is_value (P := P) (base := base) T
  have D_is_one_of := ok_is_one_of (P := P) (base := base) T
  refine mkDef T.F_is_set T.g_is_set sc_is_set (fun _ _ _ _ _ _ us hl => match us, hl with | [_], _ => rfl) (fun vs H Q E h => ?_) (fun cdv A outer s H vs Q E hr h => ?_)
  · obtain ⟨a, xs, ds, rfl, _⟩ := h; rfl
  · obtain ⟨a, xs, ds, rfl, hx, ha, k⟩ := h
    refine ⟨_, (PSs.nox (pss_one (ps_ret (pe_and (pe_cmpR op_eq (pe_callB call_len_seq (by rfl) T.m_len boot_len (pa_cons (pv 0) pa_nil)) pe_int (nomark _)) (pe_and (pe_callD D_is_one_of (hr.mono (by omega)) rfl pass0 (pa_cons (pe_ix ix_list (pv 0) pe_int (fun _ _ => rfl)) (pa_cons (pe_gref rfl T.g_VARIABLES) pa_nil))) (pe_one (pe_callD D_is_value (hr.mono (by omega)) rfl pass0 (pa_cons (pe_ix ix_list (pv 0) pe_int (fun _ _ => rfl)) pa_nil)))))))), ?_⟩
    refine s_ret (ev_lenAnd rfl hx ha pSet_len fun hn => ?_) k
    obtain ⟨x, y, rfl⟩ := len2 ((dpAll_len ha).trans hn)
    obtain ⟨dx, dy, rfl, h1, h2⟩ := dp2 ha
    exact ev_andV (ev_call (ea_cons (ev_op (ev_var rfl) ev_c (rv_ixL hx at0)) (ea_cons ev_c ea_nil)) (spvOne (ns := vars) h1 (T.t_VARIABLES _))) fun _ => ev_call (ea_cons (ev_op (ev_var rfl) ev_c (rv_ixL hx at1)) ea_nil) (spv1 h2)
theorem ok_is_add (T : Txt w K mg) : Def P w K mg base CX0 4 "is_add" ["parts"] (spL K pAdd) := by
  have D_is_term := ok_is_term (P := P) (base := base) T
  have D_is_one_of := ok_is_one_of (P := P) (base := base) T
  refine mkDef T.F_is_add T.g_is_add sc_is_add (fun _ _ _ _ _ _ us hl => match us, hl with | [_], _ => rfl) (fun vs H Q E h => ?_) (fun cdv A outer s H vs Q E hr h => ?_)
  · obtain ⟨a, xs, ds, rfl, _⟩ := h; rfl
  · obtain ⟨a, xs, ds, rfl, hx, ha, k⟩ := h
    refine ⟨_, (PSs.nox (pss_one (ps_ret (pe_and (pe_cmpR op_eq (pe_callB call_len_seq (by rfl) T.m_len boot_len (pa_cons (pv 0) pa_nil)) pe_int (nomark _)) (pe_and (pe_callD D_is_one_of (hr.mono (by omega)) rfl pass0 (pa_cons (pe_ix ix_list (pv 0) pe_int (fun _ _ => rfl)) (pa_cons (pe_gref rfl T.g_VARIABLES) pa_nil))) (pe_one (pe_callD D_is_term (hr.mono (by omega)) rfl pass0 (pa_cons (pe_ix ix_list (pv 0) pe_int (fun _ _ => rfl)) pa_nil)))))))), ?_⟩
    refine s_ret (ev_lenAnd rfl hx ha pAdd_len fun hn => ?_) k
    obtain ⟨x, y, rfl⟩ := len2 ((dpAll_len ha).trans hn)
    obtain ⟨dx, dy, rfl, h1, h2⟩ := dp2 ha
    exact ev_andV (ev_call (ea_cons (ev_op (ev_var rfl) ev_c (rv_ixL hx at0)) (ea_cons ev_c ea_nil)) (spvOne (ns := vars) h1 (T.t_VARIABLES _))) fun _ => ev_call (ea_cons (ev_op (ev_var rfl) ev_c (rv_ixL hx at1)) ea_nil) (spv1 h2)
theorem ok_is_wait (T : Txt w K mg) : Def P w K mg base CX0 2 "is_wait" ["parts"] (spL K pWait) := by
  have D_is_integer := ok_is_integer (P := P) (base := base) T
  refine mkDef T.F_is_wait T.g_is_wait sc_is_wait (fun _ _ _ _ _ _ us hl => match us, hl with | [_], _ => rfl) (fun vs H Q E h => ?_) (fun cdv A outer s H vs Q E hr h => ?_)
  · obtain ⟨a, xs, ds, rfl, _⟩ := h; rfl
  · obtain ⟨a, xs, ds, rfl, hx, ha, k⟩ := h
    refine ⟨_, (PSs.nox (pss_one (ps_ret (pe_and (pe_cmpR op_eq (pe_callB call_len_seq (by rfl) T.m_len boot_len (pa_cons (pv 0) pa_nil)) pe_int (nomark _)) (pe_and (pe_callD D_is_integer (hr.mono (by omega)) rfl pass0 (pa_cons (pe_ix ix_list (pv 0) pe_int (fun _ _ => rfl)) pa_nil)) (pe_one (pe_chain op_le op_le pe_int (pe_ix ix_list (pv 0) pe_int (fun _ _ => rfl)) (pe_gint rfl T.c_LONGEST_WAIT)))))))), ?_⟩
    refine s_ret (ev_lenAnd rfl hx ha pWait_len fun hn => ?_) k
    obtain ⟨x, rfl⟩ := len1 ((dpAll_len ha).trans hn)
    obtain ⟨dx, rfl, h1⟩ := dp1 ha
    refine ev_is (ev_andV (b := pWait [dx]) (ev_call (ea_cons (ev_op (ev_var rfl) ev_c (rv_ixL hx at0)) ea_nil) (spv1 h1)) fun hs => ?_) ?_
    · cases h1 with
      | int i => exact ev_chain ev_c (ev_op (ev_var rfl) ev_c (rv_ixL hx at0)) rv_le (fun _ => ev_c) (fun _ => rv_le)
      | _ => cases hs
    · cases dx <;> rfl
theorem ok_is_answer (T : Txt w K mg) : Def P w K mg base CX0 2 "is_answer" ["parts"] (spL K pAns) := by
  have D_is_integer := ok_is_integer (P := P) (base := base) T
  refine mkDef T.F_is_answer T.g_is_answer sc_is_answer (fun _ _ _ _ _ _ us hl => match us, hl with | [_], _ => rfl) (fun vs H Q E h => ?_) (fun cdv A outer s H vs Q E hr h => ?_)
  · obtain ⟨a, xs, ds, rfl, _⟩ := h; rfl
  · obtain ⟨a, xs, ds, rfl, hx, ha, k⟩ := h
    refine ⟨_, (PSs.nox (pss_one (ps_ret (pe_and (pe_cmpR op_eq (pe_callB call_len_seq (by rfl) T.m_len boot_len (pa_cons (pv 0) pa_nil)) pe_int (nomark _)) (pe_and (pe_callD D_is_integer (hr.mono (by omega)) rfl pass0 (pa_cons (pe_ix ix_list (pv 0) pe_int (fun _ _ => rfl)) pa_nil)) (pe_one (pe_chain op_le op_le pe_int (pe_ix ix_list (pv 0) pe_int (fun _ _ => rfl)) pe_int))))))), ?_⟩
    refine s_ret (ev_lenAnd rfl hx ha pAns_len fun hn => ?_) k
    obtain ⟨x, rfl⟩ := len1 ((dpAll_len ha).trans hn)
    obtain ⟨dx, rfl, h1⟩ := dp1 ha
    refine ev_is (ev_andV (b := pAns [dx]) (ev_call (ea_cons (ev_op (ev_var rfl) ev_c (rv_ixL hx at0)) ea_nil) (spv1 h1)) fun hs => ?_) ?_
    · cases h1 with
      | int i => exact ev_chain ev_c (ev_op (ev_var rfl) ev_c (rv_ixL hx at0)) rv_le (fun _ => ev_c) (fun _ => rv_le)
      | _ => cases hs
    · cases dx <;> rfl
theorem ok_is_one_term (T : Txt w K mg) : Def P w K mg base CX0 4 "is_one_term" ["parts"] (spL K pTerm) := by
  have D_is_term := ok_is_term (P := P) (base := base) T
  refine mkDef T.F_is_one_term T.g_is_one_term sc_is_one_term (fun _ _ _ _ _ _ us hl => match us, hl with | [_], _ => rfl) (fun vs H Q E h => ?_) (fun cdv A outer s H vs Q E hr h => ?_)
  · obtain ⟨a, xs, ds, rfl, _⟩ := h; rfl
  · obtain ⟨a, xs, ds, rfl, hx, ha, k⟩ := h
    refine ⟨_, (PSs.nox (pss_one (ps_ret (pe_and (pe_cmpR op_eq (pe_callB call_len_seq (by rfl) T.m_len boot_len (pa_cons (pv 0) pa_nil)) pe_int (nomark _)) (pe_one (pe_callD D_is_term (hr.mono (by omega)) rfl pass0 (pa_cons (pe_ix ix_list (pv 0) pe_int (fun _ _ => rfl)) pa_nil))))))), ?_⟩
    refine s_ret (ev_lenAnd rfl hx ha pTerm_len fun hn => ?_) k
    obtain ⟨x, rfl⟩ := len1 ((dpAll_len ha).trans hn)
    obtain ⟨dx, rfl, h1⟩ := dp1 ha
    exact ev_call (ea_cons (ev_op (ev_var rfl) ev_c (rv_ixL hx at0)) ea_nil) (spv1 h1)
theorem ok_is_ask (T : Txt w K mg) : Def P w K mg base CX0 4 "is_ask" ["parts"] (spL K pAsk) := by
  have D_is_term := ok_is_term (P := P) (base := base) T
  have D_is_one_of := ok_is_one_of (P := P) (base := base) T
  refine mkDef T.F_is_ask T.g_is_ask sc_is_ask (fun _ _ _ _ _ _ us hl => match us, hl with | [_], _ => rfl) (fun vs H Q E h => ?_) (fun cdv A outer s H vs Q E hr h => ?_)
  · obtain ⟨a, xs, ds, rfl, _⟩ := h; rfl
  · obtain ⟨a, xs, ds, rfl, hx, ha, k⟩ := h
    have hl := dpAll_len ha
    refine ⟨_, (PSs.nox (pss_cons (ps_if (pt_cmpR op_ne (pe_callB call_len_seq (by rfl) T.m_len boot_len (pa_cons (pv 0) pa_nil)) pe_int (nomark _)) (pss_one (ps_ret pe_bl)) pss_nil)
      (pss_one (ps_ret (pe_and (pe_callD D_is_one_of (hr.mono (by omega)) rfl pass0 (pa_cons (pe_ix ix_list (pv 0) pe_int (fun _ _ => rfl)) (pa_cons (pe_gref rfl T.g_DIRECTIONS) pa_nil))) (pe_and (pe_callD D_is_term (hr.mono (by omega)) rfl pass0 (pa_cons (pe_ix ix_list (pv 0) pe_int (fun _ _ => rfl)) pa_nil)) (pe_one (pe_callD D_is_one_of (hr.mono (by omega)) rfl pass0 (pa_cons (pe_ix ix_list (pv 0) pe_int (fun _ _ => rfl)) (pa_cons (pe_gref rfl T.g_VARIABLES) pa_nil)))))))))), ?_⟩
    refine q_when (et_is (et_test (ev_op (ev_cb (ea_cons (ev_var rfl) ea_nil) (rc_lenL hx)) ev_c (rv_ne rfl))) (int_ne xs.length 3)) ?_ ?_
    · intro hb H1 e
      have h3 : ¬ ds.length = 3 := fun q => by rw [← hl] at q; rw [q] at hb; cases hb
      refine s_ret ev_c fun H2 e2 => ?_
      have := k H2 (e.trans e2)
      rw [pAsk_len h3] at this
      exact this
    · intro hb H1 e
      have h3 : xs.length = 3 := by
        by_cases q : xs.length = 3
        · exact q
        · rw [decide_eq_false q] at hb; cases hb
      obtain ⟨x, y, z, rfl⟩ := len3 h3
      obtain ⟨dx, dy, dz, rfl, h1, h2, h3⟩ := dp3 ha
      have hx := ex_l e hx
      exact s_ret (ev_andV (ev_call (ea_cons (ev_op (ev_var rfl) ev_c (rv_ixL hx at0)) (ea_cons ev_c ea_nil)) (spvOne (ns := dirs) (dp_mono e h1) (T.t_DIRECTIONS _))) fun _ =>
        ev_andV (ev_call (ea_cons (ev_op (ev_var rfl) ev_c (rv_ixL hx at1)) ea_nil) (spv1 (dp_mono e h2))) fun _ => ev_call (ea_cons (ev_op (ev_var rfl) ev_c (rv_ixL hx at2)) (ea_cons ev_c ea_nil)) (spvOne (ns := vars) (dp_mono e h3) (T.t_VARIABLES _))) fun H2 e2 => k H2 (e.trans e2)
end

end Nt

namespace Nt
open PySem PySem.Spec PyProof.Rows L2 Evl
/-! ### a call of a def that a slot holds -/
def tCallH (A : Addr → Sp → Prop) (i : Nat) (t : TA) : TE := fun σ H Q => ∃ f sp, σ[i]? = some (some (.ref f)) ∧ A f sp ∧ t σ H fun vs H1 => sp vs H1 Q E0
theorem pe_callH {X : Cx} {k i : Nat} {x : Str} {p pos : Pos} {e : Expr} {es : List Expr} {t : TA} {A : Addr → Sp → Prop} (hA : ∀ f sp, A f sp → Held X.prog X.w X.K X.mg X.base k f sp) (hr : Room k X.A) (hN : X.N[i]? = some x) (hv : Vis X.env.scope x) (ha : PA X (e :: es) t)
    (hdb : (x == ("__debug__" : Str)) = false := by decide) (hcd : (x == ("__classdict__" : Str)) = false := by decide)
    (he : starEach (e :: es) X.env = (false, eval e X.env) :: starEach es X.env := by rfl) (hpl : (backTo pos (starEach es X.env)).any (·.1) = false := by rfl) : PE X (.Call (.Name x p) (e :: es) [] pos) (tCallH A i t) := by
  refine ⟨fun pins s σ H Q I h => ?_⟩
  obtain ⟨f, sp, hs, hS, ht⟩ := h
  obtain ⟨fd, ps, F, hk, hb⟩ := (hA f sp hS).ex
  refine (pe_callL (i := i) (f := f) (sp := sp) (dvs := []) (E := fun _ _ _ => False) F hr hN hv hk hb .nil (fun _ _ _ _ _ _ _ z => z.elim) ha hdb hcd he hpl).run pins s σ H Q I ⟨hs, ?_⟩
  have e0 : (fun (vs : List V) (H1 : Hp) => sp (vs ++ []) H1 Q (fun _ _ _ => False)) = fun vs H1 => sp vs H1 Q (fun _ _ _ => False) := by
    funext vs H1
    rw [List.append_nil]
  show t σ H (fun vs H1 => sp (vs ++ []) H1 Q (fun _ _ _ => False))
  rw [e0]
  exact ht
theorem Def.held {P : Program} {w : World} {K : PySem.W.Frag} {mg : Str → Option Value} {base : Heap} {k : Nat} {x : Str} {ps : List Str} {sp : Sp} {f : Addr} (D : Def P w K mg base CX0 k x ps sp) (g : mg x = some (.ref f)) : Held P w K mg base k f sp := by
  obtain ⟨f', fd, h1, h2, h3, h4⟩ := D.ex
  have e : f = f' := by
    have := g.symm.trans h1
    injection this with this
    injection this
  subst e
  exact ⟨fd, ps, h4, h2, h3⟩
theorem ev_callH {A : Addr → Sp → Prop} {i : Nat} {t : TA} {σ : L2.St} {H : Hp} {f : Addr} {sp : Sp} {vs : List V} {z : V} (h0 : σ[i]? = some (some (.ref f))) (hA : A f sp) (ha : EvA t σ H vs) (hs : SpV sp vs H z) : Ev (tCallH A i t) σ H z := fun H1 e Q q =>
  ⟨f, sp, h0, hA, ha H1 e _ fun H2 e2 => hs H2 (e.trans e2) _ (fun H3 e3 => q H3 (e2.trans e3)) E0⟩
/-! ### sizes -/
inductive Sm : PyData → Prop
  | none : Sm .none
  | bool (b : Bool) : Sm (.bool b)
  | int (i : Int) : Sm (.int i)
  | str (s : Str) : Sm (.str s)
  | list {xs : List PyData} (h : xs.length ≤ 20000) (a : ∀ x, x ∈ xs → Sm x) : Sm (.list xs)
  | tuple {xs : List PyData} (h : xs.length ≤ 20000) (a : ∀ x, x ∈ xs → Sm x) : Sm (.tuple xs)
theorem Sm.tupI {xs : List PyData} (h : Sm (.tuple xs)) : xs.length ≤ 20000 ∧ ∀ x, x ∈ xs → Sm x := by
  cases h with
  | tuple h a => exact ⟨h, a⟩
/-! ### the counts -/
def sumO (l : List (Option Int)) : Option Int := if l.any Option.isNone then none else some (l.map (·.getD 0)).sum
def wordsT : List Str := ["set", "add", "wait", "ask", "answer"]
def wordsC : List Str := ["set", "add", "wait", "grow", "list"]
def words (kind : Str) : List Str := if kind = "teller" then wordsT else wordsC
def chk (z : Str) : List PyData → Bool := if z = "set" then pSet else if z = "add" then pAdd else if z = "wait" then pWait else if z = "ask" then pAsk else if z = "answer" then pAns else pTerm
def nBod (z : Str) : Nat := if z = "if" then 2 else 1
def isBlk (z : Str) : Bool := z == "if" || z == "while"
def cntBlock (cb : PyData → Option Int) (z : Str) (parts : List PyData) : Option Int :=
  if (parts.drop 1).length = nBod z ∧ isCond (parts.getD 0 .none) = true then (sumO ((parts.drop 1).map cb)).map (1 + ·) else none
def cntStmt (kind : Str) (cb : PyData → Option Int) : PyData → Option Int
  | .tuple (.str z :: parts) => if isBlk z then cntBlock cb z parts else if (words kind).contains z && chk z parts then some 1 else none
  | _ => none
def cntBody (kind : Str) : Nat → PyData → Option Int
  | 0, .tuple [] => some 0
  | f + 1, .tuple ss => sumO (ss.map (cntStmt kind (cntBody kind f)))
  | _, _ => none
def cV : Option Int → V
  | none => .non
  | some n => .int n
theorem cV_flat (os : List (Option Int)) : (os.map cV).all flatV = true := by
  rw [List.all_map]
  refine List.all_eq_true.mpr fun o _ => ?_
  cases o <;> rfl
theorem cV_none (os : List (Option Int)) : inV .non (os.map cV) = os.any Option.isNone := by
  unfold inV
  rw [List.any_map]
  congr 1
  funext o
  cases o <;> rfl
theorem cV_some {os : List (Option Int)} (h : os.any Option.isNone = false) : os.map cV = (os.map (·.getD 0)).map V.int := by
  induction os with
  | nil => rfl
  | cons o os ih =>
    rw [List.any_cons, Bool.or_eq_false_iff] at h
    cases o with
    | none => cases h.1
    | some n => rw [List.map_cons, List.map_cons, List.map_cons, ih h.2]; rfl
def okKind (kind : Str) : Prop := kind = "teller" ∨ kind = "collector"
def spStm (K : PySem.W.Frag) (f : Nat) : Sp := fun vs H Q _ => ∃ (kind : Str) (v : V) (d : PyData), okKind kind ∧ vs = [.str kind, v, .int (4 - (f : Int))] ∧ Dp K H v d ∧ Sm d ∧ ∀ H', Same H H' → Q (cV (cntStmt kind (cntBody kind f) d)) H'
def spBod (K : PySem.W.Frag) (f : Nat) : Sp := fun vs H Q _ => ∃ (kind : Str) (v : V) (d : PyData), okKind kind ∧ vs = [.str kind, v, .int (5 - (f : Int))] ∧ Dp K H v d ∧ Sm d ∧ ∀ H', Same H H' → Q (cV (cntBody kind f d)) H'
def spBlk (K : PySem.W.Frag) (f : Nat) : Sp := fun vs H Q _ => ∃ (kind z : Str) (a : Addr) (xs : List V) (ds : List PyData), okKind kind ∧ isBlk z = true ∧ vs = [.str kind, .str z, .ref a, .int (4 - (f : Int))] ∧ SqL K H a xs ∧ DpAll K H xs ds ∧ ds.length ≤ 20000 ∧ (∀ d, d ∈ ds → Sm d) ∧ ∀ H', Same H H' → Q (cV (cntBlock (cntBody kind f) z ds)) H'
theorem spvStm {K : PySem.W.Frag} {f : Nat} {kind : Str} {v : V} {d : PyData} {H : Hp} (hk : okKind kind) (h : Dp K H v d) (hs : Sm d) : SpV (spStm K f) [.str kind, v, .int (4 - (f : Int))] H (cV (cntStmt kind (cntBody kind f) d)) := fun H1 e Q q E => ⟨kind, v, d, hk, rfl, dp_mono e h, hs, fun H' e' => q H' e'⟩
theorem spvBod {K : PySem.W.Frag} {f : Nat} {kind : Str} {v : V} {d : PyData} {H : Hp} (hk : okKind kind) (h : Dp K H v d) (hs : Sm d) : SpV (spBod K f) [.str kind, v, .int (5 - (f : Int))] H (cV (cntBody kind f d)) := fun H1 e Q q E => ⟨kind, v, d, hk, rfl, dp_mono e h, hs, fun H' e' => q H' e'⟩
theorem spvBlk {K : PySem.W.Frag} {f : Nat} {kind z : Str} {a : Addr} {xs : List V} {ds : List PyData} {H : Hp} (hk : okKind kind) (hz : isBlk z = true) (hx : SqL K H a xs) (h : DpAll K H xs ds) (hl : ds.length ≤ 20000) (hs : ∀ d, d ∈ ds → Sm d) :
    SpV (spBlk K f) [.str kind, .str z, .ref a, .int (4 - (f : Int))] H (cV (cntBlock (cntBody kind f) z ds)) := fun H1 e Q q E => ⟨kind, z, a, xs, ds, hk, hz, rfl, ex_l e hx, dpAll_mono e h, hl, hs, fun H' e' => q H' e'⟩
def bodTab : List (Str × V) := [("if", .int 2), ("while", .int 1)]
theorem bod_at {z : Str} (h : isBlk z = true) : bodTab.lookup z = some (.int (nBod z : Nat)) := by
  unfold isBlk at h
  rcases Bool.or_eq_true_iff.mp h with q | q
  · rw [eq_of_beq q]; decide +kernel
  · rw [eq_of_beq q]; decide +kernel
theorem bod_is (z : Str) : (bodTab.lookup z).isSome = isBlk z := by
  unfold bodTab isBlk
  rw [List.lookup_cons, List.lookup_cons, List.lookup_nil]
  cases (z == "if") <;> cases (z == "while") <;> rfl
/-- None if None in counts else .. -/
theorem ev_counts {K : PySem.W.Frag} {σ : L2.St} {H : Hp} {i : Nat} {p : Addr} {os : List (Option Int)} {te : TE} {g : Int → Int} (h0 : σ[i]? = some (some (.ref p))) (hp : SqL K H p (os.map cV))
    (h : os.any Option.isNone = false → Ev te σ H (.int (g (os.map (·.getD 0)).sum))) : Ev (tIf (tTest (tOp (rIn K false) (tC .non) (tVar i))) (tC .non) te) σ H (cV ((sumO os).map g)) := by
  refine ev_if (b := os.any Option.isNone) (et_is (et_test (ev_op ev_c (ev_var h0) (rv_isL hp rfl (cV_flat os)))) (cV_none os)) (fun hb => ev_is ev_c ?_) (fun hb => ev_is (h hb) ?_)
  · unfold sumO; rw [if_pos hb]; rfl
  · unfold sumO; rw [if_neg (by rw [hb]; exact Bool.false_ne_true)]; rfl

end Nt

namespace Nt
open PySem PySem.Spec PyProof.Rows L2 Evl
theorem cut1 (xs : List V) : cutV xs (some 1) none = xs.drop 1 := by
  unfold cutV
  have h1 : HT.sIx xs.length 0 (some 1) = min 1 xs.length := HT.sIx_nat xs.length 0 1
  rw [h1, HT.sIx_none]
  cases xs with
  | nil => rfl
  | cons x xs =>
    have h2 : min 1 (x :: xs).length = 1 := by rw [List.length_cons]; omega
    rw [h2, List.take_of_length_le]
    rw [List.length_drop]; omega
section
variable {P : Program} {w : World} {K : PySem.W.Frag} {mg : Str → Option Value} {base : Heap}
theorem ok_count_block (T : Txt w K mg) (f k : Nat) (hk4 : 4 ≤ k) (D_count_body : Def P w K mg base CX0 k "count_body" ["kind", "thing", "depth"] (spBod K f)) : Def P w K mg base CX0 (k + 1) "count_block" ["kind", "word", "parts", "depth"] (spBlk K f) := by
  have D_is_condition := (ok_is_condition (P := P) (base := base) T)
  refine mkDef T.F_count_block T.g_count_block sc_count_block (fun _ _ _ _ _ _ us hl => match us, hl with | [_, _, _, _], _ => rfl) (fun vs H Q E h => ?_) (fun cdv A outer s H vs Q E hr h => ?_)
  · obtain ⟨_, _, _, _, _, _, _, rfl, _⟩ := h; rfl
  · obtain ⟨kind, z, a, xs, ds, hkd, hz, rfl, hx, ha, hl, hs, kk⟩ := h
    have hn := dpAll_len ha
    refine ⟨_, (PSs.nox (pss_cons (ps_set (i := 4) sc_count_block.nd rfl (Or.inl rfl) (pe_slice sl_list (pv 2) (po_some pe_int) po_none))
      (pss_cons (ps_if (PW.pt (pw_or (pt_cmpR op_ne (pe_callB call_len_seq (by rfl) T.m_len boot_len (pa_cons (pv 4) pa_nil)) (pe_ix (ix_tab T.d_BODIES) (pe_gref rfl T.g_BODIES) (pv 1) (fun _ _ => rfl)) (nomark _)) (pw_or1 (pt_not (pt_val (pe_callD D_is_condition (hr.mono (by omega)) rfl pass0 (pa_cons (pe_ix ix_list (pv 2) pe_int (fun _ _ => rfl)) pa_nil))))))) (pss_one (ps_ret pe_non)) pss_nil)
      (pss_cons (ps_setLc (i := 5) (own := [("body", 6)]) (by rfl) sc_count_block.nd rfl rfl (sw_true rfl rfl rfl (by decide +kernel)) (pi_list (pv 4)) (blkOk_by (own := [("body", 6)]) (N := N_count_block) (sc := defScope s_count_block) (by decide +kernel)) (fun _ _ _ _ _ => (pg_name (i := 6) sc_count_block.nd rfl (Or.inl rfl))) (fun _ _ _ _ _ => pts_nil) (fun _ _ _ _ _ => (pe_callD D_count_body (hr.mono (by omega)) rfl pass0 (pa_cons (pv 0) (pa_cons (pv 6) (pa_cons (pe_op op_add (pv 3) pe_int) pa_nil))))))
      (pss_one (ps_ret (pe_ifExp (pt_cmpR op_in_seq pe_non (pv 5) (by rfl)) pe_non (pe_op op_add pe_int (pe_callB (cr_sum rfl) (by rfl) T.m_sum boot_sum (pa_cons (pv 5) pa_nil)))))))))), ?_⟩
    refine q_asgL (el_sl (ev_var rfl) (eo_some ev_c) eo_none hx) fun p H1 hp e hp1 => ?_
    rw [cut1] at hp1
    have hb := dpAll_drop 1 (dpAll_mono e ha)
    have hpl : (xs.drop 1).length = (ds.drop 1).length := dpAll_len hb
    have hcmp : ∀ H', Ex H1 H' → Ev (tOp rNe (tCB (rLenS K) (tCons (tVar 4) tNil)) (tOp (rIxTab (He.ga K "BODIES") bodTab) (tC (.ref (He.ga K "BODIES"))) (tVar 1))) [some (.str kind), some (.str z), some (.ref a), some (.int (4 - (f : Int))), some (.ref p), none, none] H' (.bl (!decide ((ds.drop 1).length = nBod z))) := fun H' e' =>
      ev_is (ev_op (ev_cb (ea_cons (ev_var rfl) ea_nil) (rc_lenL (sq_of (e' _ _ hp1)))) (ev_op ev_c (ev_var rfl) (rv_ixTab (bod_at hz))) (rv_ne rfl)) (by rw [int_ne, hpl])
    by_cases hlen : (ds.drop 1).length = nBod z
    · have hnb : 1 ≤ nBod z := by unfold nBod; split <;> omega
      obtain ⟨x0, xr, rfl⟩ : ∃ x0 xr, xs = x0 :: xr := by
        cases xs with
        | nil => rw [List.length_drop, ← hn] at hlen; simp at hlen; omega
        | cons x0 xr => exact ⟨x0, xr, rfl⟩
      obtain ⟨d0, hd0, hx0⟩ := dpAll_get (i := 0) (v := x0) ha rfl
      have hg : ds.getD 0 .none = d0 := by rw [List.getD_eq_getElem?_getD, hd0]; rfl
      refine q_when (b := !isCond d0) (et_is (et_or (b := !isCond d0) (et_test (hcmp H1 (Ex.refl _))) fun _ => et_not (et_B (ev_call (ea_cons (ev_op (ev_var rfl) ev_c (rv_ixL (ex_l e hx) at0)) ea_nil) (spv1 (dp_mono e hx0))))) ?_) ?_ ?_
      · rw [decide_eq_true hlen]; rfl
      · intro hb2 H2 e2
        refine s_ret ev_c fun H3 e3 => ?_
        have := kk H3 (e.trans (e2.trans e3))
        unfold cntBlock at this
        rw [if_neg (by rw [hg]; intro q; rw [q.2] at hb2; cases hb2)] at this
        exact this
      · intro hb2 H2 e2
        have hc : isCond d0 = true := by
          cases q : isCond d0 with
          | true => rfl
          | false => rw [q] at hb2; cases hb2
        have hsq : SqL K H2 p (List.drop 1 (x0 :: xr)) := sq_of (e2 _ _ hp1)
        refine q_asgL (el_mapL (ys := ((ds.drop 1).map (cntBody kind f)).map cV) (ev_var rfl) hsq (by rw [List.length_map, List.length_map, hpl]) (by rw [hpl, List.length_drop]; omega) (fun x => rfl) fun i x y H3 e3 hi hy => ?_) fun q H3 hq e3 hq3 => ?_
        · obtain ⟨d, hd, hdx⟩ := dpAll_get (dpAll_mono (e2.trans e3) hb) hi
          rw [List.getElem?_map, List.getElem?_map, hd] at hy
          cases hy
          have ed : (4 - (f : Int)) + 1 = 5 - (f : Int) := by omega
          refine ev_call (ea_cons (ev_var rfl) (ea_cons (ev_var rfl) (ea_cons (ev_is (ev_op (ev_var rfl) ev_c rv_I0) (congrArg V.int ed)) ea_nil))) (spvBod hkd hdx (hs d ?_))
          exact List.mem_of_mem_drop (List.mem_of_getElem? hd)
        · refine s_ret (ev_counts (g := fun s => 1 + s) rfl (sq_of hq3) fun hno => ?_) fun H4 e4 => ?_
          · rw [cV_some hno] at hq3
            exact ev_op ev_c (ev_cb (ea_cons (ev_var rfl) ea_nil) (rc_sum (sq_of hq3))) rv_I0
          · have := kk H4 (e.trans (e2.trans (e3.trans e4)))
            unfold cntBlock at this
            rw [if_pos ⟨hlen, by rw [hg]; exact hc⟩] at this
            exact this
    · refine q_when (b := true) (et_or (b := true) (et_is (et_test (hcmp H1 (Ex.refl _))) (b := true) (by rw [decide_eq_false hlen]; rfl)) fun q => by cases q) (fun _ H2 e2 => ?_) fun q => by cases q
      refine s_ret ev_c fun H3 e3 => ?_
      have := kk H3 (e.trans (e2.trans e3))
      unfold cntBlock at this
      rw [if_neg fun q => hlen q.1] at this
      exact this
end

end Nt

namespace Nt
open PySem PySem.Spec PyProof.Rows L2 Evl
section
variable {P : Program} {w : World} {K : PySem.W.Frag} {mg : Str → Option Value} {base : Heap}
def chkTab (K : PySem.W.Frag) : List (Str × V) := [("set", .ref (He.ga K "is_set")), ("add", .ref (He.ga K "is_add")), ("wait", .ref (He.ga K "is_wait")), ("ask", .ref (He.ga K "is_ask")), ("answer", .ref (He.ga K "is_answer")), ("grow", .ref (He.ga K "is_one_term")), ("list", .ref (He.ga K "is_one_term"))]
def ChkA (K : PySem.W.Frag) (f : Addr) (sp : Sp) : Prop := (f = He.ga K "is_set" ∧ sp = spL K pSet) ∨ (f = He.ga K "is_add" ∧ sp = spL K pAdd) ∨ (f = He.ga K "is_wait" ∧ sp = spL K pWait) ∨ (f = He.ga K "is_ask" ∧ sp = spL K pAsk) ∨ (f = He.ga K "is_answer" ∧ sp = spL K pAns) ∨ (f = He.ga K "is_one_term" ∧ sp = spL K pTerm)
theorem hA_chk (T : Txt w K mg) (f : Addr) (sp : Sp) (h : ChkA K f sp) : Held P w K mg base 4 f sp := by
  rcases h with ⟨rfl, rfl⟩ | ⟨rfl, rfl⟩ | ⟨rfl, rfl⟩ | ⟨rfl, rfl⟩ | ⟨rfl, rfl⟩ | ⟨rfl, rfl⟩
  · exact ((ok_is_set T).mono (by decide)).held T.g_is_set
  · exact (ok_is_add T).held T.g_is_add
  · exact ((ok_is_wait T).mono (by decide)).held T.g_is_wait
  · exact (ok_is_ask T).held T.g_is_ask
  · exact ((ok_is_answer T).mono (by decide)).held T.g_is_answer
  · exact (ok_is_one_term T).held T.g_is_one_term
theorem chk_at (K : PySem.W.Frag) {kind z : Str} (h : (words kind).contains z = true) : ∃ f, (chkTab K).lookup z = some (.ref f) ∧ ChkA K f (spL K (chk z)) := by
  have hm : z ∈ words kind := List.contains_iff_mem.mp h
  have hz : z = "set" ∨ z = "add" ∨ z = "wait" ∨ z = "ask" ∨ z = "answer" ∨ z = "grow" ∨ z = "list" := by
    unfold words wordsT wordsC at hm
    split at hm
    · simp only [List.mem_cons, List.not_mem_nil, or_false] at hm
      rcases hm with q | q | q | q | q <;> simp [q]
    · simp only [List.mem_cons, List.not_mem_nil, or_false] at hm
      rcases hm with q | q | q | q | q <;> simp [q]
  rcases hz with q | q | q | q | q | q | q
  · subst q; exact ⟨_, rfl, .inl ⟨rfl, rfl⟩⟩
  · subst q; exact ⟨_, rfl, .inr (.inl ⟨rfl, rfl⟩)⟩
  · subst q; exact ⟨_, rfl, .inr (.inr (.inl ⟨rfl, rfl⟩))⟩
  · subst q; exact ⟨_, rfl, .inr (.inr (.inr (.inl ⟨rfl, rfl⟩)))⟩
  · subst q; exact ⟨_, rfl, .inr (.inr (.inr (.inr (.inl ⟨rfl, rfl⟩))))⟩
  · subst q; exact ⟨_, rfl, .inr (.inr (.inr (.inr (.inr ⟨rfl, rfl⟩))))⟩
  · subst q; exact ⟨_, rfl, .inr (.inr (.inr (.inr (.inr ⟨rfl, rfl⟩))))⟩
theorem spvL {g : List PyData → Bool} {a : Addr} {xs : List V} {ds : List PyData} {H : Hp} (hx : SqL K H a xs) (h : DpAll K H xs ds) : SpV (spL K g) [.ref a] H (.bl (g ds)) := fun H1 e Q q E => ⟨a, xs, ds, rfl, ex_l e hx, dpAll_mono e h, fun H' e' => q H' e'⟩
/-- WORDS[kind] -/
theorem words_at (T : Txt w K mg) {kind : Str} (h : okKind kind) (H : Hp) : ∃ a, List.lookup kind [("teller", V.ref (tabAt "WORDS" "teller" K)), ("collector", V.ref (tabAt "WORDS" "collector" K))] = some (.ref a) ∧ SqT K H a ((words kind).map V.str) := by
  rcases h with rfl | rfl
  · exact ⟨_, rfl, T.t_WORDS_teller H⟩
  · exact ⟨_, rfl, T.t_WORDS_collector H⟩
theorem cntStmt_not {kind : Str} {cb : PyData → Option Int} {d : PyData} (h : ∀ z ps, d ≠ .tuple (.str z :: ps)) : cntStmt kind cb d = none := by
  unfold cntStmt
  split
  · exact absurd rfl (h _ _)
  · rfl
theorem cntStmt_blk {kind z : Str} {cb : PyData → Option Int} {ps : List PyData} (hz : isBlk z = true) : cntStmt kind cb (.tuple (.str z :: ps)) = cntBlock cb z ps := if_pos hz
theorem cntStmt_one {kind z : Str} {cb : PyData → Option Int} {ps : List PyData} (hz : isBlk z = false) : cntStmt kind cb (.tuple (.str z :: ps)) = if ((words kind).contains z && chk z ps) = true then some 1 else none := if_neg (by rw [hz]; exact Bool.false_ne_true)
theorem ok_count_statement (T : Txt w K mg) (f k : Nat) (hk4 : 4 ≤ k) (D_count_block : Def P w K mg base CX0 k "count_block" ["kind", "word", "parts", "depth"] (spBlk K f)) : Def P w K mg base CX0 (k + 1) "count_statement" ["kind", "thing", "depth"] (spStm K f) := by
  have hA_check := hA_chk (P := P) (base := base) T
  refine mkDef T.F_count_statement T.g_count_statement sc_count_statement (fun _ _ _ _ _ _ us hl => match us, hl with | [_, _, _], _ => rfl) (fun vs H Q E h => ?_) (fun cdv A outer s H vs Q E hr h => ?_)
  · obtain ⟨_, _, _, _, rfl, _⟩ := h; rfl
  · obtain ⟨kind, v, d, hkd, rfl, hd, hs, kk⟩ := h
    refine ⟨_, (PSs.nox (pss_cons (ps_if (PW.pt (pw_or (pt_not (pt_val (pe_callB call_isi (by rfl) T.m_isinstance boot_isinstance (pa_cons (pv 1) (pa_cons (pe_bltn (v := .ty "tuple") rfl T.m_tuple boot_tuple rfl) pa_nil))))) (pw_or (pt_cmpR op_eq (pe_callB call_len_seq (by rfl) T.m_len boot_len (pa_cons (pv 1) pa_nil)) pe_int (nomark _)) (pw_or1 (pt_not (pt_val (pe_callB call_isi (by rfl) T.m_isinstance boot_isinstance (pa_cons (pe_ix ix_tup (pv 1) pe_int (fun _ _ => rfl)) (pa_cons (pe_bltn (v := .ty "str") rfl T.m_str boot_str rfl) pa_nil))))))))) (pss_one (ps_ret pe_non)) pss_nil)
      (pss_cons (ps_asg (pv 1) (pg_star (n := 2) (i := 1) rfl (pgs_cons (pg_name (i := 3) sc_count_statement.nd rfl (Or.inl rfl)) (pgs_star (pg_name (i := 4) sc_count_statement.nd rfl (Or.inl rfl))))))
      (pss_cons (ps_if (pt_cmpR (op_in_tab T.d_BODIES) (pv 3) (pe_gref rfl T.g_BODIES) (by rfl)) (pss_one (ps_ret (pe_callD D_count_block (hr.mono (by omega)) rfl pass0 (pa_cons (pv 0) (pa_cons (pv 3) (pa_cons (pv 4) (pa_cons (pv 2) pa_nil))))))) pss_nil)
      (pss_cons (ps_if (pt_cmpR op_notIn_seq (pv 3) (pe_ix (ix_tab T.d_WORDS) (pe_gref rfl T.g_WORDS) (pv 0) (fun _ _ => rfl)) (by rfl)) (pss_one (ps_ret pe_non)) pss_nil)
      (pss_cons (ps_set (i := 5) sc_count_statement.nd rfl (Or.inl rfl) (pe_ix (ix_tab T.d_CHECKS) (pe_gref rfl T.g_CHECKS) (pv 3) (fun _ _ => rfl)))
      (pss_one (ps_ret (pe_ifExp (pt_val (pe_callH (i := 5) hA_check (hr.mono (by omega)) rfl (Or.inl rfl) (pa_cons (pv 4) pa_nil))) pe_int pe_non))))))))), ?_⟩
    cases ht : isTup d with
    | false =>
      refine q_when (b := true) (et_or (b := true) (et_not (et_B (ev_cb (ea_cons (ev_var rfl) (ea_cons ev_c ea_nil)) (isi_d hd ((kit_tup d).trans (congrArg some ht)))))) fun q => by cases q) (fun _ H1 e => s_ret ev_c fun H2 e2 => ?_) fun q => by cases q
      have := kk H2 (e.trans e2)
      rw [cntStmt_not (fun z ps q => by rw [q] at ht; cases ht)] at this
      exact this
    | true =>
      obtain ⟨a, xs, ds, rfl, rfl, hx, ha⟩ := dp_tupI hd ht
      obtain ⟨hsz, hsm⟩ := hs.tupI
      cases ha with
      | nil =>
        refine q_when (b := true) (et_or (b := true) (et_not (et_B (ev_cb (ea_cons (ev_var rfl) (ea_cons ev_c ea_nil)) (isi_d hd (kit_tup _))))) fun _ => et_or (a := true) (b := true) (et_test (ev_op (ev_cb (ea_cons (ev_var rfl) ea_nil) (rc_lenT hx)) ev_c (rv_eq rfl))) fun q => by cases q) (fun _ H1 e => s_ret ev_c fun H2 e2 => ?_) fun q => by cases q
        exact kk H2 (e.trans e2)
      | @cons x0 xr d0 dr h0 hr0 =>
        have hl0 : Ev (tOp rEq (tCB (rLenS K) (tCons (tVar 1) tNil)) (tC (.int 0))) [some (.str kind), some (.ref a), some (.int (4 - (f : Int))), none, none, none] H (.bl false) :=
          ev_is (ev_op (ev_cb (ea_cons (ev_var rfl) ea_nil) (rc_lenT hx)) ev_c (rv_eq rfl)) (congrArg V.bl ((int_eq (xr.length + 1) 0).trans rfl))
        refine q_when (b := !isStr d0) (et_is (et_or (b := !isStr d0) (et_not (et_B (ev_cb (ea_cons (ev_var rfl) (ea_cons ev_c ea_nil)) (isi_d hd (kit_tup _))))) fun _ => et_or (a := false) (b := !isStr d0) (et_test hl0) fun _ => et_not (et_B (ev_cb (ea_cons (ev_op (ev_var rfl) ev_c (rv_ixT hx at0)) (ea_cons ev_c ea_nil)) (isi_d h0 (kit_str d0))))) rfl) ?_ ?_
        · intro hb H1 e
          refine s_ret ev_c fun H2 e2 => ?_
          have := kk H2 (e.trans e2)
          rw [cntStmt_not (fun z ps q => by
            injection q with q
            injection q with q1 q2
            rw [q1] at hb; cases hb)] at this
          exact this
        · intro hb H1 e
          have hst : isStr d0 = true := by
            cases q : isStr d0 with
            | true => rfl
            | false => rw [q] at hb; cases hb
          obtain ⟨z, rfl, rfl⟩ := dp_strI h0 hst
          refine ⟨_, rfl, a, _, rfl, ex_t e hx, by show 2 ≤ (xr.length + 1) + 1; omega, by decide, fun p hp => ?_⟩
          have e1 : List.take (xr.length + 1 + 1 - 2) (List.drop 1 (V.str z :: xr)) = xr := by
            rw [List.drop_succ_cons, List.drop_zero, List.take_of_length_le (by omega)]
          have e2 : List.drop (xr.length + 1 + 1 - 2) (List.drop 1 (V.str z :: xr)) = [] := by
            rw [List.drop_succ_cons, List.drop_zero, List.drop_of_length_le (by omega)]
          show gCons (gName 3) (gCons (gName 4) gNil) ([V.str z] ++ [V.ref p] ++ List.drop (xr.length + 1 + 1 - 2) (List.drop 1 (V.str z :: xr))) _ (upd H1 p (.lst (List.take (xr.length + 1 + 1 - 2) (List.drop 1 (V.str z :: xr))))) _
          rw [e1, e2]
          refine ⟨_, _, rfl, _, _, rfl, rfl, ?_⟩
          have e3 : Ex H1 (upd H1 p (.lst xr)) := Ex.new hp
          have hq : SqL K (upd H1 p (.lst xr)) p xr := sq_of upd_same
          have hdr : DpAll K (upd H1 p (.lst xr)) xr dr := dpAll_mono (e.trans e3) hr0
          refine q_when (et_is (et_test (ev_op (ev_var rfl) ev_c rv_inTab)) (bod_is z)) ?_ ?_
          · intro hz H2 e4
            refine s_ret (ev_call (ea_cons (ev_var rfl) (ea_cons (ev_var rfl) (ea_cons (ev_var rfl) (ea_cons (ev_var rfl) ea_nil)))) (spvBlk hkd hz (ex_l e4 hq) (dpAll_mono e4 hdr) (by have := hsz; rw [List.length_cons] at this; omega) fun d hd => hsm d (List.mem_cons_of_mem _ hd))) fun H3 e5 => ?_
            have := kk H3 (e.trans (e3.trans (e4.trans e5)))
            rw [cntStmt_blk hz] at this
            exact this
          · intro hz H2 e4
            obtain ⟨aw, hw1, hw2⟩ := words_at T hkd H2
            refine q_when (b := !(words kind).contains z) (et_is (et_test (ev_op (ev_var rfl) (ev_op ev_c (ev_var rfl) (rv_ixTab hw1)) (rv_niT hw2 rfl (flat_strs _)))) (by rw [in_strs])) ?_ ?_
            · intro hc H3 e5
              refine s_ret ev_c fun H4 e6 => ?_
              have := kk H4 (e.trans (e3.trans (e4.trans (e5.trans e6))))
              have hc' : (words kind).contains z = false := by
                cases q : (words kind).contains z with
                | false => rfl
                | true => rw [q] at hc; cases hc
              rw [cntStmt_one hz, hc'] at this
              exact this
            · intro hc H3 e5
              have hc' : (words kind).contains z = true := by
                cases q : (words kind).contains z with
                | true => rfl
                | false => rw [q] at hc; cases hc
              obtain ⟨fc, hf1, hf2⟩ := chk_at K hc'
              refine q_asg (ev_op ev_c (ev_var rfl) (rv_ixTab hf1)) fun H4 e6 => ?_
              have e7 := e4.trans (e5.trans e6)
              refine s_ret (ev_if (v := cV (if chk z dr = true then some 1 else none)) (et_B (ev_callH rfl hf2 (ea_cons (ev_var rfl) ea_nil) (spvL (ex_l e7 hq) (dpAll_mono e7 hdr)))) (fun hb => ev_is ev_c (by rw [if_pos hb]; rfl)) (fun hb => ev_is ev_c (by rw [if_neg (by rw [hb]; exact Bool.false_ne_true)]; rfl))) fun H5 e8 => ?_
              have := kk H5 (e.trans (e3.trans (e7.trans e8)))
              rw [cntStmt_one hz, hc', Bool.true_and] at this
              exact this
end

end Nt

namespace Nt
open PySem PySem.Spec PyProof.Rows L2 Evl
section
variable {P : Program} {w : World} {K : PySem.W.Frag} {mg : Str → Option Value} {base : Heap}
theorem cntBody_not {kind : Str} {f : Nat} {d : PyData} (h : isTup d = false) : cntBody kind f d = none := by
  cases d with
  | tuple xs => cases h
  | _ => cases f <;> rfl
/-- the guard: not a tuple, or too deep -/
theorem ok_count_body0 (T : Txt w K mg) : Def P w K mg base CX0 1 "count_body" ["kind", "thing", "depth"] (spBod K 0) := by
  have D_count_statement : Def P w K mg base CX0 0 "count_statement" ["kind", "thing", "depth"] (fun _ _ _ _ => False) := Def.idle 0 T.F_count_statement T.g_count_statement (fun _ _ _ _ _ _ us hl => match us, hl with | [_, _, _], _ => rfl)
  refine mkDef T.F_count_body T.g_count_body sc_count_body (fun _ _ _ _ _ _ us hl => match us, hl with | [_, _, _], _ => rfl) (fun vs H Q E h => ?_) (fun cdv A outer s H vs Q E hr h => ?_)
  · obtain ⟨_, _, _, _, rfl, _⟩ := h; rfl
  · obtain ⟨kind, v, d, hkd, rfl, hd, hs, kk⟩ := h
    refine ⟨_, (PSs.nox (pss_cons (ps_if (PW.pt (pw_or (pt_not (pt_val (pe_callB call_isi (by rfl) T.m_isinstance boot_isinstance (pa_cons (pv 1) (pa_cons (pe_bltn (v := .ty "tuple") rfl T.m_tuple boot_tuple rfl) pa_nil))))) (pw_or1 (PW.pt (pw_and (pt_cmpR op_gt (pe_callB call_len_seq (by rfl) T.m_len boot_len (pa_cons (pv 1) pa_nil)) pe_int (nomark _)) (pw_and1 (pt_cmpR op_gt (pv 2) (pe_gint rfl T.c_MOST_DEPTH) (nomark _)))))))) (pss_one (ps_ret pe_non)) pss_nil)
      (pss_cons (ps_setLc (i := 3) (own := [("statement", 4)]) (by rfl) sc_count_body.nd rfl rfl (sw_true rfl rfl rfl (by decide +kernel)) (pi_tup (pv 1)) (blkOk_by (own := [("statement", 4)]) (N := N_count_body) (sc := defScope s_count_body) (by decide +kernel)) (fun _ _ _ _ _ => (pg_name (i := 4) sc_count_body.nd rfl (Or.inl rfl))) (fun _ _ _ _ _ => pts_nil) (fun _ _ _ _ _ => (pe_callD D_count_statement (hr.mono (by omega)) rfl pass0 (pa_cons (pv 0) (pa_cons (pv 4) (pa_cons (pv 2) pa_nil))))))
      (pss_one (ps_ret (pe_ifExp (pt_cmpR op_in_seq pe_non (pv 3) (by rfl)) pe_non (pe_callB (cr_sum rfl) (by rfl) T.m_sum boot_sum (pa_cons (pv 3) pa_nil)))))))), ?_⟩
    cases ht : isTup d with
    | false =>
      refine q_when (b := true) (et_or (b := true) (et_not (et_B (ev_cb (ea_cons (ev_var rfl) (ea_cons ev_c ea_nil)) (isi_d hd ((kit_tup d).trans (congrArg some ht)))))) fun q => by cases q) (fun _ H1 e => s_ret ev_c fun H2 e2 => ?_) fun q => by cases q
      have := kk H2 (e.trans e2)
      rw [cntBody_not ht] at this
      exact this
    | true =>
      obtain ⟨a, xs, ds, rfl, rfl, hx, ha⟩ := dp_tupI hd ht
      cases ha with
      | nil =>
        refine q_when (b := false) (et_or (b := false) (et_not (et_B (ev_cb (ea_cons (ev_var rfl) (ea_cons ev_c ea_nil)) (isi_d hd (kit_tup _))))) fun _ => et_and (a := false) (b := false) (et_test (ev_op (ev_cb (ea_cons (ev_var rfl) ea_nil) (rc_lenT hx)) ev_c rv_gt)) fun q => by cases q) (fun q => by cases q) fun _ H1 e => ?_
        refine q_asgL (el_mapT (ys := (([] : List (Option Int)).map cV)) (ev_var rfl) (ex_t e hx) rfl (by simp) (fun x => rfl) fun i x y H3 e3 hi hy => by cases hi) fun q H3 hq e3 hq3 => ?_
        refine s_ret (ev_counts (os := []) (g := fun s => s) rfl (sq_of hq3) fun hno => ?_) fun H4 e4 => kk H4 (e.trans (e3.trans e4))
        exact ev_cb (ea_cons (ev_var rfl) ea_nil) (rc_sum (ns := []) (sq_of hq3))
      | @cons x0 xr d0 dr h0 hr0 =>
        refine q_when (b := true) (et_or (b := true) (et_not (et_B (ev_cb (ea_cons (ev_var rfl) (ea_cons ev_c ea_nil)) (isi_d hd (kit_tup _))))) fun _ => et_and (a := true) (b := true) (et_is (et_test (ev_op (ev_cb (ea_cons (ev_var rfl) ea_nil) (rc_lenT hx)) ev_c rv_gt)) (decide_eq_true (by rw [List.length_cons]; omega))) fun _ => et_test (ev_op (ev_var rfl) ev_c rv_gt)) (fun _ H1 e => s_ret ev_c fun H2 e2 => kk H2 (e.trans e2)) fun q => by cases q
theorem ok_count_bodyS (T : Txt w K mg) (f k : Nat) (D_count_statement : Def P w K mg base CX0 k "count_statement" ["kind", "thing", "depth"] (spStm K f)) : Def P w K mg base CX0 (k + 1) "count_body" ["kind", "thing", "depth"] (spBod K (f + 1)) := by
  refine mkDef T.F_count_body T.g_count_body sc_count_body (fun _ _ _ _ _ _ us hl => match us, hl with | [_, _, _], _ => rfl) (fun vs H Q E h => ?_) (fun cdv A outer s H vs Q E hr h => ?_)
  · obtain ⟨_, _, _, _, rfl, _⟩ := h; rfl
  · obtain ⟨kind, v, d, hkd, rfl, hd, hs, kk⟩ := h
    have e5 : (5 - ((f + 1 : Nat) : Int)) = 4 - (f : Int) := by omega
    rw [e5]
    refine ⟨_, (PSs.nox (pss_cons (ps_if (PW.pt (pw_or (pt_not (pt_val (pe_callB call_isi (by rfl) T.m_isinstance boot_isinstance (pa_cons (pv 1) (pa_cons (pe_bltn (v := .ty "tuple") rfl T.m_tuple boot_tuple rfl) pa_nil))))) (pw_or1 (PW.pt (pw_and (pt_cmpR op_gt (pe_callB call_len_seq (by rfl) T.m_len boot_len (pa_cons (pv 1) pa_nil)) pe_int (nomark _)) (pw_and1 (pt_cmpR op_gt (pv 2) (pe_gint rfl T.c_MOST_DEPTH) (nomark _)))))))) (pss_one (ps_ret pe_non)) pss_nil)
      (pss_cons (ps_setLc (i := 3) (own := [("statement", 4)]) (by rfl) sc_count_body.nd rfl rfl (sw_true rfl rfl rfl (by decide +kernel)) (pi_tup (pv 1)) (blkOk_by (own := [("statement", 4)]) (N := N_count_body) (sc := defScope s_count_body) (by decide +kernel)) (fun _ _ _ _ _ => (pg_name (i := 4) sc_count_body.nd rfl (Or.inl rfl))) (fun _ _ _ _ _ => pts_nil) (fun _ _ _ _ _ => (pe_callD D_count_statement (hr.mono (by omega)) rfl pass0 (pa_cons (pv 0) (pa_cons (pv 4) (pa_cons (pv 2) pa_nil))))))
      (pss_one (ps_ret (pe_ifExp (pt_cmpR op_in_seq pe_non (pv 3) (by rfl)) pe_non (pe_callB (cr_sum rfl) (by rfl) T.m_sum boot_sum (pa_cons (pv 3) pa_nil)))))))), ?_⟩
    cases ht : isTup d with
    | false =>
      refine q_when (b := true) (et_or (b := true) (et_not (et_B (ev_cb (ea_cons (ev_var rfl) (ea_cons ev_c ea_nil)) (isi_d hd ((kit_tup d).trans (congrArg some ht)))))) fun q => by cases q) (fun _ H1 e => s_ret ev_c fun H2 e2 => ?_) fun q => by cases q
      have := kk H2 (e.trans e2)
      rw [cntBody_not ht] at this
      exact this
    | true =>
      obtain ⟨a, xs, ds, rfl, rfl, hx, ha⟩ := dp_tupI hd ht
      obtain ⟨hsz, hsm⟩ := hs.tupI
      have hn := dpAll_len ha
      refine q_when (b := false) (et_is (et_or (b := false) (et_not (et_B (ev_cb (ea_cons (ev_var rfl) (ea_cons ev_c ea_nil)) (isi_d hd (kit_tup _))))) fun _ => et_is (et_and (b := false) (et_test (ev_op (ev_cb (ea_cons (ev_var rfl) ea_nil) (rc_lenT hx)) ev_c rv_gt)) fun _ => et_is (et_test (ev_op (ev_var rfl) ev_c rv_gt)) (decide_eq_false (by omega))) (Bool.and_false _)) rfl) (fun q => by cases q) fun _ H1 e => ?_
      refine q_asgL (el_mapT (ys := ((ds.map (cntStmt kind (cntBody kind f))).map cV)) (ev_var rfl) (ex_t e hx) (by rw [List.length_map, List.length_map, hn]) (by omega) (fun x => rfl) fun i x y H3 e3 hi hy => ?_) fun q H3 hq e3 hq3 => ?_
      · obtain ⟨d, hd, hdx⟩ := dpAll_get (dpAll_mono (e.trans e3) ha) hi
        rw [List.getElem?_map, List.getElem?_map, hd] at hy
        cases hy
        exact ev_call (ea_cons (ev_var rfl) (ea_cons (ev_var rfl) (ea_cons (ev_var rfl) ea_nil))) (spvStm hkd hdx (hsm d (List.mem_of_getElem? hd)))
      · refine s_ret (ev_counts (g := fun s => s) rfl (sq_of hq3) fun hno => ?_) fun H4 e4 => ?_
        · rw [cV_some hno] at hq3
          exact ev_cb (ea_cons (ev_var rfl) ea_nil) (rc_sum (sq_of hq3))
        · have := kk H4 (e.trans (e3.trans e4))
          rw [show (sumO (ds.map (cntStmt kind (cntBody kind f)))).map (fun s => s) = sumO (ds.map (cntStmt kind (cntBody kind f))) from Option.map_id']
          exact this
theorem ok_count_body (T : Txt w K mg) : ∀ f : Nat, Def P w K mg base CX0 (4 + 3 * f) "count_body" ["kind", "thing", "depth"] (spBod K f)
  | 0 => (ok_count_body0 T).mono (by decide)
  | f + 1 => (ok_count_bodyS T f (4 + 3 * f + 1 + 1) (ok_count_statement T f (4 + 3 * f + 1) (by omega) (ok_count_block T f (4 + 3 * f) (by omega) (ok_count_body T f)))).mono (by omega)
/-! ### is_program -/
def isProg : PyData → Bool
  | .tuple [.str kind, body] => (kind == "teller" || kind == "collector") && (match cntBody kind 4 body with
    | some n => decide (n ≤ 24)
    | none => false)
  | _ => false
def spProg (K : PySem.W.Frag) : Sp := fun vs H Q _ => ∃ v d, vs = [v] ∧ Dp K H v d ∧ Sm d ∧ ∀ H', Same H H' → Q (.bl (isProg d)) H'
theorem spvProg {v : V} {d : PyData} {H : Hp} (h : Dp K H v d) (hs : Sm d) : SpV (spProg K) [v] H (.bl (isProg d)) := fun H1 e Q q E => ⟨v, d, rfl, dp_mono e h, hs, fun H' e' => q H' e'⟩
theorem isProg_not {d : PyData} (h : isTup d = false) : isProg d = false := by
  cases d <;> first | rfl | cases h
theorem isProg_len {ds : List PyData} (h : ¬ ds.length = 2) : isProg (.tuple ds) = false := by
  match ds, h with
  | [], _ => rfl
  | [x], _ => cases x <;> rfl
  | [_, _], h => exact absurd rfl h
  | x :: _ :: _ :: _, _ => cases x <;> rfl
theorem isProg_str {d0 d1 : PyData} (h : isStr d0 = false) : isProg (.tuple [d0, d1]) = false := by
  cases d0 <;> first | rfl | cases h
theorem kind_is (K : PySem.W.Frag) (z : Str) : (List.lookup z [(("teller" : Str), V.ref (tabAt "WORDS" "teller" K)), (("collector" : Str), V.ref (tabAt "WORDS" "collector" K))]).isSome = (z == "teller" || z == "collector") := by
  rw [List.lookup_cons, List.lookup_cons, List.lookup_nil]
  cases (z == "teller") <;> cases (z == "collector") <;> rfl
theorem ok_is_program (T : Txt w K mg) : Def P w K mg base CX0 17 "is_program" ["thing"] (spProg K) := by
  have D_count_body := ok_count_body (P := P) (base := base) T 4
  refine mkDef T.F_is_program T.g_is_program sc_is_program (fun _ _ _ _ _ _ us hl => match us, hl with | [_], _ => rfl) (fun vs H Q E h => ?_) (fun cdv A outer s H vs Q E hr h => ?_)
  · obtain ⟨_, _, rfl, _⟩ := h; rfl
  · obtain ⟨v, d, rfl, hd, hs, kk⟩ := h
    refine ⟨_, (PSs.nox (pss_cons (ps_if (PW.pt (pw_or (pt_not (pt_val (pe_callB call_isi (by rfl) T.m_isinstance boot_isinstance (pa_cons (pv 0) (pa_cons (pe_bltn (v := .ty "tuple") rfl T.m_tuple boot_tuple rfl) pa_nil))))) (pw_or (pt_cmpR op_ne (pe_callB call_len_seq (by rfl) T.m_len boot_len (pa_cons (pv 0) pa_nil)) pe_int (nomark _)) (pw_or (pt_not (pt_val (pe_callB call_isi (by rfl) T.m_isinstance boot_isinstance (pa_cons (pe_ix ix_tup (pv 0) pe_int (fun _ _ => rfl)) (pa_cons (pe_bltn (v := .ty "str") rfl T.m_str boot_str rfl) pa_nil))))) (pw_or1 (pt_cmpR (op_ni_tab T.d_WORDS) (pe_ix ix_tup (pv 0) pe_int (fun _ _ => rfl)) (pe_gref rfl T.g_WORDS) (by rfl))))))) (pss_one (ps_ret pe_bl)) pss_nil)
      (pss_cons (ps_set (i := 1) sc_is_program.nd rfl (Or.inl rfl) (pe_callD D_count_body (hr.mono (by omega)) rfl pass0 (pa_cons (pe_ix ix_tup (pv 0) pe_int (fun _ _ => rfl)) (pa_cons (pe_ix ix_tup (pv 0) pe_int (fun _ _ => rfl)) (pa_cons pe_int pa_nil)))))
      (pss_one (ps_ret (pe_and (pe_cmpR op_notN (pv 1) pe_non (nomark _)) (pe_one (pe_cmpR op_le (pv 1) (pe_gint rfl T.c_MOST_STATEMENTS) (nomark _))))))))), ?_⟩
    cases ht : isTup d with
    | false =>
      refine q_when (b := true) (et_or (b := true) (et_not (et_B (ev_cb (ea_cons (ev_var rfl) (ea_cons ev_c ea_nil)) (isi_d hd ((kit_tup d).trans (congrArg some ht)))))) fun q => by cases q) (fun _ H1 e => s_ret ev_c fun H2 e2 => ?_) fun q => by cases q
      have := kk H2 (e.trans e2)
      rw [isProg_not ht] at this
      exact this
    | true =>
      obtain ⟨a, xs, ds, rfl, rfl, hx, ha⟩ := dp_tupI hd ht
      obtain ⟨hsz, hsm⟩ := hs.tupI
      have hn := dpAll_len ha
      by_cases hl : xs.length = 2
      · obtain ⟨x0, x1, rfl⟩ := len2 hl
        obtain ⟨d0, d1, rfl, h0, h1⟩ := dp2 ha
        have hl0 : Ev (tOp rNe (tCB (rLenS K) (tCons (tVar 0) tNil)) (tC (.int 2))) [some (.ref a), none] H (.bl false) := ev_op (ev_cb (ea_cons (ev_var rfl) ea_nil) (rc_lenT hx)) ev_c (rv_ne rfl)
        cases hst : isStr d0 with
        | false =>
          refine q_when (b := true) (et_is (et_or (b := true) (et_not (et_B (ev_cb (ea_cons (ev_var rfl) (ea_cons ev_c ea_nil)) (isi_d hd (kit_tup _))))) fun _ => et_or (a := false) (b := true) (et_test hl0) fun _ => et_or (a := true) (b := true) (et_not (et_B (ev_cb (ea_cons (ev_op (ev_var rfl) ev_c (rv_ixT hx at0)) (ea_cons ev_c ea_nil)) (isi_d h0 ((kit_str d0).trans (congrArg some hst)))))) fun q => by cases q) rfl) (fun _ H1 e => s_ret ev_c fun H2 e2 => ?_) fun q => by cases q
          have := kk H2 (e.trans e2)
          rw [isProg_str hst] at this
          exact this
        | true =>
          obtain ⟨z, rfl, rfl⟩ := dp_strI h0 hst
          refine q_when (b := !(z == "teller" || z == "collector")) (et_is (et_or (b := !(z == "teller" || z == "collector")) (et_not (et_B (ev_cb (ea_cons (ev_var rfl) (ea_cons ev_c ea_nil)) (isi_d hd (kit_tup _))))) fun _ => et_or (a := false) (b := !(z == "teller" || z == "collector")) (et_test hl0) fun _ => et_or (a := false) (b := !(z == "teller" || z == "collector")) (et_not (et_B (ev_cb (ea_cons (ev_op (ev_var rfl) ev_c (rv_ixT hx at0)) (ea_cons ev_c ea_nil)) (isi_d h0 (kit_str _))))) fun _ => et_is (et_test (ev_op (ev_op (ev_var rfl) ev_c (rv_ixT hx at0)) ev_c rv_niTab)) (congrArg not (kind_is K z))) rfl) ?_ ?_
          · intro hb H1 e
            refine s_ret ev_c fun H2 e2 => ?_
            have := kk H2 (e.trans e2)
            have hz : (z == "teller" || z == "collector") = false := by
              cases q : (z == "teller" || z == "collector") with
              | false => rfl
              | true => rw [q] at hb; cases hb
            have hp : isProg (.tuple [.str z, d1]) = false := by
              show ((z == "teller" || z == "collector") && _) = false
              rw [hz]; rfl
            rw [hp] at this
            exact this
          · intro hb H1 e
            have hz : (z == "teller" || z == "collector") = true := by
              cases q : (z == "teller" || z == "collector") with
              | true => rfl
              | false => rw [q] at hb; cases hb
            have hkd : okKind z := by
              rcases Bool.or_eq_true_iff.mp hz with q | q
              · exact .inl (eq_of_beq q)
              · exact .inr (eq_of_beq q)
            have hx1 := ex_t e hx
            refine q_asg (ev_call (ea_cons (ev_op (ev_var rfl) ev_c (rv_ixT hx1 at0)) (ea_cons (ev_op (ev_var rfl) ev_c (rv_ixT hx1 at1)) (ea_cons ev_c ea_nil))) (spvBod (f := 4) hkd (dp_mono e h1) (hsm _ (by simp)))) fun H2 e2 => ?_
            have hp : isProg (.tuple [.str z, d1]) = (match cntBody z 4 d1 with
                | some n => decide (n ≤ 24)
                | none => false) := by
              show ((z == "teller" || z == "collector") && _) = _
              rw [hz, Bool.true_and]
            rw [hp] at kk
            cases hc : cntBody z 4 d1 with
            | none =>
              rw [hc] at kk
              exact s_ret (ev_andV (a := false) (b := false) (ev_op (ev_var rfl) ev_c rv_notN) fun q => by cases q) fun H3 e3 => kk H3 (e.trans (e2.trans e3))
            | some n =>
              rw [hc] at kk
              exact s_ret (ev_andV (a := true) (ev_op (ev_var rfl) ev_c rv_notN) fun _ => ev_op (ev_var rfl) ev_c rv_le) fun H3 e3 => kk H3 (e.trans (e2.trans e3))
      · refine q_when (b := true) (et_or (b := true) (et_not (et_B (ev_cb (ea_cons (ev_var rfl) (ea_cons ev_c ea_nil)) (isi_d hd (kit_tup _))))) fun _ => et_or (a := true) (b := true) (et_is (et_test (ev_op (ev_cb (ea_cons (ev_var rfl) ea_nil) (rc_lenT hx)) ev_c (rv_ne rfl))) ((int_ne xs.length 2).trans (by rw [decide_eq_false hl]; rfl))) fun q => by cases q) (fun _ H1 e => s_ret ev_c fun H2 e2 => ?_) fun q => by cases q
        have := kk H2 (e.trans e2)
        rw [isProg_len (by rw [← hn]; exact hl)] at this
        exact this
end

end Nt

namespace Nt
open PySem PySem.Spec PyProof.Rows L2 Evl
/-! ### the law's bag: a list of two ints that draws change -/
def Bag (H : Hp) (b : Addr) : Prop := ∃ n s : Int, H b = some (.lst [.int n, .int s]) ∧ 0 ≤ n ∧ 0 ≤ s ∧ s < 2147483648
def ExB (b : Addr) (H H' : Hp) : Prop := ∀ a o, a ≠ b → H a = some o → H' a = some o
structure HasBag (W : Wd) (b : Addr) : Prop where
  m : W.M b = true
  bag : ∀ H, W.J H → Bag H b
  put : ∀ H H', W.J H → ExB b H H' → Bag H' b → W.J H'
theorem HasBag.le {W : Wd} {b : Addr} (h : HasBag W b) {H H' : Hp} (j : W.J H) (e : ExB b H H') (g : Bag H' b) : W.Le H H' := by
  refine ⟨fun a o ha => ?_, h.put H H' j e g⟩
  unfold Wd.wo at ha ⊢
  split at ha
  · cases ha
  · rename_i hn
    rw [if_neg hn]
    refine e a o (fun q => hn ?_) ha
    rw [q]; exact h.m
def bagW (b : Addr) : Wd where
  M := fun a => a == b
  J := fun H => Bag H b
  live := fun H a ⟨n, s, h, _⟩ e => by rw [eq_of_beq e, h]; exact fun z => nomatch z
  loc := fun H H' ⟨n, s, h, r⟩ k => ⟨n, s, by rw [k b (beq_self_eq_true b)]; exact h, r⟩
theorem bagW_has (b : Addr) : HasBag (bagW b) b := ⟨beq_self_eq_true b, fun _ h => h, fun _ _ _ _ h => h⟩
/-- a helper's promise: A of the data behind the bag, G of what comes back -/
def spB (K : PySem.W.Frag) (A : List PyData → Prop) (G : List PyData → PyData → Prop) : Sp := fun vs H Q _ => ∃ (W : Wd) (b : Addr) (xs : List V) (ds : List PyData), HasBag W b ∧ W.J H ∧ vs = .ref b :: xs ∧ DpAll K (W.wo H) xs ds ∧ A ds ∧
  ∀ v d H', W.Le H H' → Dp K (W.wo H') v d → G ds d → Q v H'
theorem em_help {W : Wd} {K : PySem.W.Frag} {σ : L2.St} {H : Hp} {A A' : List PyData → Prop} {G : List PyData → PyData → Prop} {b : Addr} {i : Nat} {ta : TA} {E : XK} (h0 : σ[i]? = some (some (.ref b))) (hb : HasBag W b) (ha : EmA W K ta σ H A') (hA : ∀ ds, A' ds → A ds) :
    Em W K (tCall (spB K A G) [] E (tCons (tVar i) ta)) σ H (fun d => ∃ ds, A' ds ∧ G ds d) := fun H1 e Q q =>
  ⟨_, h0, ha H1 e _ fun vs ds H2 e2 hds p => ⟨W, b, vs, ds, hb, e2.j, by rw [List.append_nil], hds, hA ds p, fun v d H' e3 hd g => q v d H' (e2.trans e3) hd ⟨ds, p, g⟩⟩⟩
/-- the promise of draw -/
def drawA : List PyData → Prop := fun ds => ∃ m : Int, ds = [.int m] ∧ 0 < m ∧ m < 1073741824
def drawG : List PyData → PyData → Prop := fun ds d => ∃ m r : Int, ds = [.int m] ∧ d = .int r ∧ 0 ≤ r ∧ r < m
theorem em_draw {W : Wd} {K : PySem.W.Frag} {σ : L2.St} {H : Hp} {b : Addr} {i : Nat} {te : TE} {E : XK} {P : Int → Prop} (h0 : σ[i]? = some (some (.ref b))) (hb : HasBag W b) (ha : Em W K te σ H (IsI fun m => 0 < m ∧ m < 1073741824 ∧ P m)) :
    Em W K (tCall (spB K drawA drawG) [] E (tCons (tVar i) (tCons te tNil))) σ H (IsI fun r => ∃ m, P m ∧ 0 ≤ r ∧ r < m) := by
  refine Em.imp (em_help (A' := fun ds => ∃ m : Int, ds = [.int m] ∧ 0 < m ∧ m < 1073741824 ∧ P m) h0 hb (ema_cons ha fun d hd => ema_nil ?_) ?_) ?_
  · obtain ⟨m, rfl, h⟩ := hd
    exact ⟨m, rfl, h⟩
  · rintro ds ⟨m, rfl, h1, h2, _⟩
    exact ⟨m, rfl, h1, h2⟩
  · rintro d ⟨ds, ⟨m, rfl, h1, h2, h3⟩, m', r, e1, rfl, h4, h5⟩
    have e2 : m = m' := by injection e1 with e1; injection e1
    subst e2
    exact ⟨r, rfl, m, h3, h4, h5⟩
/-- by a written number -/
theorem em_drawN {W : Wd} {K : PySem.W.Frag} {σ : L2.St} {H : Hp} {b : Addr} {i : Nat} {m : Int} {E : XK} (h0 : σ[i]? = some (some (.ref b))) (hb : HasBag W b) (h1 : 0 < m ∧ m < 1073741824 := by decide) :
    Em W K (tCall (spB K drawA drawG) [] E (tCons (tVar i) (tCons (tC (.int m)) tNil))) σ H (IsI fun r => 0 ≤ r ∧ r < m) :=
  Em.imp (em_draw (P := fun n => n = m) h0 hb (em_int ⟨m, rfl, h1.1, h1.2, rfl⟩)) fun d ⟨r, e, n, hn, h⟩ => ⟨r, e, by rw [hn] at h; exact h⟩
section
variable {P : Program} {w : World} {K : PySem.W.Frag} {mg : Str → Option Value} {base : Heap}
theorem bag_put {b : Addr} {H : Hp} {n s : Int} (h1 : 0 ≤ n) (h2 : 0 ≤ s) (h3 : s < 2147483648) : Bag (upd H b (.lst [.int n, .int s])) b := ⟨n, s, upd_same, h1, h2, h3⟩
theorem exB_put {b : Addr} {H : Hp} {o : HO} : ExB b H (upd H b o) := fun a u ne h => by rw [upd_ne ne]; exact h
theorem mul_bound {x y a b : Int} (hx : 0 ≤ x) (hxa : x < a) (hy : 0 ≤ y) (hyb : y < b) : 0 ≤ x * y ∧ x * y < a * b := by
  refine ⟨Int.mul_nonneg hx hy, ?_⟩
  have h1 : x * y ≤ x * b := Int.mul_le_mul_of_nonneg_left (by omega) hx
  have h2 : x * b < a * b := Int.mul_lt_mul_of_pos_right hxa (by omega)
  omega
theorem ok__law_draw (T : Txt w K mg) : Def P w K mg base CX0 1 "_law_draw" ["_law_bag_here", "_law_many"] (spB K drawA drawG) := by
  refine mkDef T.F__law_draw T.g__law_draw sc__law_draw (fun _ _ _ _ _ _ us hl => match us, hl with | [_, _], _ => rfl) (fun vs H Q E h => ?_) (fun cdv A outer s H vs Q E hr h => ?_)
  · obtain ⟨W, b, xs, ds, _, _, rfl, hd, ⟨m, rfl, _⟩, _⟩ := h
    have := dpAll_len hd
    show xs.length + 1 = 2
    rw [this]; rfl
  · obtain ⟨W, b, xs, ds, hB, j, rfl, hd, ⟨m, rfl, hm0, hm1⟩, k⟩ := h
    obtain ⟨x, rfl⟩ := len1 (dpAll_len hd)
    obtain ⟨_, e, hx⟩ := dp1 hd
    cases e
    cases dpI hx
    obtain ⟨n, s0, hb, hn, hs0, hs1⟩ := hB.bag H j
    have hsq : SqL K H b [.int n, .int s0] := sq_of hb
    refine ⟨_, (PSs.nox (pss_cons (ps_if (pt_cmpR op_gt (pe_ix ix_list (pv 0) pe_int (fun _ _ => rfl)) pe_int (nomark _)) (pss_cons (ps_set (i := 2) sc__law_draw.nd rfl (Or.inl rfl) (pe_op op_mod (pe_ix ix_list (pv 0) pe_int (fun _ _ => rfl)) (pv 1)))
      (pss_cons (ps_asg (pe_op op_fdiv (pe_ix ix_list (pv 0) pe_int (fun _ _ => rfl)) (pv 1)) (pg_sub (pv 0) pe_int set_list))
      (pss_one (ps_ret (pv 2))))) pss_nil)
      (pss_cons (ps_asg (pe_op op_mod (pe_op op_mul (pe_ix ix_list (pv 0) pe_int (fun _ _ => rfl)) pe_int) pe_int) (pg_sub (pv 0) pe_int set_list))
      (pss_one (ps_ret (pe_op op_mod (pe_op op_fdiv (pe_op op_mod (pe_op op_mul (pe_ix ix_list (pv 0) pe_int (fun _ _ => rfl)) (pe_op op_add (pe_op op_fdiv (pe_ix ix_list (pv 0) pe_int (fun _ _ => rfl)) pe_int) pe_int)) pe_int) pe_int) (pv 1))))))), ?_⟩
    refine q_when (et_test (ev_op (ev_op (ev_var rfl) ev_c (rv_ixL hsq at0)) ev_c rv_gt)) ?_ ?_
    · intro hgt H1 e
      have e0 := e b _ hb
      have hsq1 : SqL K H1 b [.int n, .int s0] := sq_of e0
      refine q_asg (ev_op (ev_op (ev_var rfl) ev_c (rv_ixL hsq1 at0)) (ev_var rfl) (rv_I hm0)) fun H2 e2 => ?_
      have e02 := e2 b _ e0
      refine q_setL (j := 0) e02 (ev_op (ev_op (ev_var rfl) ev_c (rv_ixL (sq_of e02) at0)) (ev_var rfl) (rv_I ⟨hm0, hm1⟩)) (ev_var rfl) ev_c (by show 0 < 2; decide) fun H3 e3 => ?_
      refine s_ret (ev_var rfl) fun H4 e4 => ?_
      have hn' : 0 ≤ n / m := Int.ediv_nonneg hn (by omega)
      have le1 : W.Le H H3 := .of_same j (e.trans (e2.trans e3))
      have le2 : W.Le H3 (upd H3 b (.lst [.int (n / m), .int s0])) := hB.le le1.j exB_put (bag_put hn' hs0 hs1)
      have le3 := Wd.Le.of_same le2.j e4
      exact k _ _ H4 (le1.trans (le2.trans le3)) (.int _) ⟨m, _, rfl, rfl, Int.emod_nonneg _ (by omega), Int.emod_lt_of_pos _ hm0⟩
    · intro hle H1 e
      have e0 := e b _ hb
      have hmul : CMul s0 48271 := .inl ⟨by omega, by omega⟩
      refine q_setL (j := 1) e0 (ev_op (ev_op (ev_op (ev_var rfl) ev_c (rv_ixL (sq_of e0) at1)) ev_c (rv_I hmul)) ev_c (rv_I (by decide))) (ev_var rfl) ev_c (by show 1 < 2; decide) fun H2 e2 => ?_
      have hs2 : 0 ≤ s0 * 48271 % 2147483647 := Int.emod_nonneg _ (by decide)
      have hs3 : s0 * 48271 % 2147483647 < 2147483647 := Int.emod_lt_of_pos _ (by decide)
      generalize s0 * 48271 % 2147483647 = s1 at hs2 hs3
      have le1 : W.Le H H2 := .of_same j (e.trans e2)
      have le2 : W.Le H2 (upd H2 b (.lst [.int n, .int s1])) := hB.le le1.j exB_put (bag_put hn hs2 (by omega))
      have hsq2 : SqL K (upd H2 b (.lst [.int n, .int s1])) b [.int n, .int s1] := sq_of upd_same
      refine s_ret (ev_op (ev_op (ev_op (ev_op (ev_op (ev_var rfl) ev_c (rv_ixL hsq2 at1)) (ev_op (ev_op (ev_op (ev_var rfl) ev_c (rv_ixL hsq2 at1)) ev_c (rv_I ⟨by decide, by decide⟩)) ev_c rv_I0) (rv_I (Or.inl ⟨by omega, by omega⟩))) ev_c (rv_I (by decide))) ev_c (rv_I ⟨by decide, by decide⟩)) (ev_var rfl) (rv_I hm0)) fun H3 e3 => ?_
      exact k _ _ H3 (le1.trans (le2.trans (.of_same le2.j e3))) (.int _) ⟨m, _, rfl, rfl, Int.emod_nonneg _ (by omega), Int.emod_lt_of_pos _ hm0⟩
end

end Nt

namespace Nt
open PySem PySem.Spec PyProof.Rows L2 Evl
theorem HasBag.plus {W : Wd} {b p : Addr} {o : HO} (h : HasBag W b) (hm : W.M p = false) : HasBag (W.plus p o) b := by
  have hne : p ≠ b := fun q => by rw [q, h.m] at hm; cases hm
  refine ⟨by show (W.M b || b == p) = true; rw [h.m]; rfl, fun H j => h.bag H j.1, fun H H' j e g => ⟨h.put H H' j.1 e g, e p _ hne j.2⟩⟩
theorem rc_abs {H : Hp} {i : Int} : RC (fun xs H Q => ∃ i, xs = [V.int i] ∧ Q (.int (if i < 0 then -i else i)) H) [.int i] H (.int (if i < 0 then -i else i)) := fun H1 _ _ q => ⟨i, rfl, q H1 (Ex.refl H1)⟩
theorem rc_intB {H : Hp} {b : Bool} : RC (fun xs H Q => (∃ i, xs = [V.int i] ∧ Q (.int i) H) ∨ ∃ k, xs = [V.bl k] ∧ Q (.int (if k then 1 else 0)) H) [.bl b] H (.int (if b then 1 else 0)) := fun H1 _ _ q => .inr ⟨b, rfl, q H1 (Ex.refl H1)⟩
/-- the cell of the script -/
def cellI (ns : List Int) (k : Nat) : Int := match ns[k]? with
  | some i => if i < 0 then -i else i
  | none => 0
theorem cellI_nn (ns : List Int) (k : Nat) : 0 ≤ cellI ns k := by
  unfold cellI
  split
  · split <;> omega
  · omega
def spBag (K : PySem.W.Frag) : Sp := fun vs H Q _ => ∃ (a : Addr) (ns : List Int) (k : Nat), vs = [.ref a, .int (k : Int)] ∧ SqL K H a (ns.map V.int) ∧ k ≤ 1000 ∧ ∀ b H', H b = none → Same H H' → Bag H' b → Q (.ref b) H'
section
variable {P : Program} {w : World} {K : PySem.W.Frag} {mg : Str → Option Value} {base : Heap}
theorem ok__law_bag (T : Txt w K mg) : Def P w K mg base CX0 1 "_law_bag" ["_law_script", "_law_k"] (spBag K) := by
  refine mkDef T.F__law_bag T.g__law_bag sc__law_bag (fun _ _ _ _ _ _ us hl => match us, hl with | [_, _], _ => rfl) (fun vs H Q E h => ?_) (fun cdv A outer s H vs Q E hr h => ?_)
  · obtain ⟨a, ns, k, rfl, _⟩ := h; rfl
  · obtain ⟨a, ns, k, rfl, hx, hk, kk⟩ := h
    refine ⟨_, (PSs.nox (pss_cons (ps_set (i := 2) sc__law_bag.nd rfl (Or.inl rfl) pe_int)
      (pss_cons (ps_if (pt_cmpR op_lt (pv 1) (pe_callB call_len_seq (by rfl) T.m_len boot_len (pa_cons (pv 0) pa_nil)) (nomark _)) (pss_one (ps_set (i := 2) sc__law_bag.nd rfl (Or.inl rfl) (pe_callB call_abs (by rfl) T.m_abs boot_abs (pa_cons (pe_ix ix_list (pv 0) (pv 1) (fun _ _ => rfl)) pa_nil)))) pss_nil)
      (pss_cons (ps_set (i := 3) sc__law_bag.nd rfl (Or.inl rfl) (pe_op op_add pe_int (pe_op op_mod (pe_op op_add (pe_op op_add (pe_op op_add (pe_op op_mul (pe_op op_mod (pv 2) pe_int) pe_int) (pe_op op_mul (pe_op op_mul pe_int (pv 1)) (pv 1))) (pe_op op_mul pe_int (pv 1))) pe_int) pe_int)))
      (pss_one (ps_ret (pe_lst (pa_cons (pe_op op_mul (pv 2) (pe_callTy call_int1 (by rfl) T.m_int boot_int (pa_cons (pe_cmpR op_ge (pv 2) (pe_op op_pow pe_int pe_int) (nomark _)) pa_nil))) (pa_cons (pv 3) pa_nil))))))))), ?_⟩
    refine q_asg ev_c fun H1 e1 => ?_
    have hc0 := cellI_nn ns k
    refine q_ifAsg (b := decide ((k : Int) < (ns.length : Int))) (v := .int (cellI ns k)) (et_is (et_test (ev_op (ev_var rfl) (ev_cb (ea_cons (ev_var rfl) ea_nil) (rc_lenL (ex_l e1 hx))) rv_lt)) (by rw [List.length_map])) (fun hb => ?_) (fun hb => ?_) fun H2 e2 => ?_
    · have hlt : k < ns.length := by have := of_decide_eq_true hb; omega
      have hn : ns[k]? = some ns[k] := List.getElem?_eq_getElem hlt
      refine ev_is (ev_cb (ea_cons (ev_op (ev_var rfl) (ev_var rfl) (rv_ixL (ex_l e1 hx) (atI_nat (j := k) (by rw [List.getElem?_map, hn]; rfl)))) ea_nil) rc_abs) ?_
      unfold cellI; rw [hn]
    · have hge : ns.length ≤ k := by have := of_decide_eq_false hb; omega
      have hn : ns[k]? = none := List.getElem?_eq_none hge
      unfold cellI; rw [hn]; rfl
    · generalize hcell : cellI ns k = c at hc0
      have hr0 : 0 ≤ c % 2147483647 := Int.emod_nonneg _ (by decide)
      have hr1 : c % 2147483647 < 2147483647 := Int.emod_lt_of_pos _ (by decide)
      refine q_asg (ev_op ev_c (ev_op (ev_op (ev_op (ev_op (ev_op (ev_op (ev_var rfl) ev_c (rv_I (by decide))) ev_c (rv_I (.inr ⟨by decide, by decide⟩))) (ev_op (ev_op ev_c (ev_var rfl) (rv_I (.inl ⟨by decide, by decide⟩))) (ev_var rfl) (rv_I (.inr ⟨by omega, by omega⟩))) rv_I0) (ev_op ev_c (ev_var rfl) (rv_I (.inl ⟨by decide, by decide⟩))) rv_I0) ev_c rv_I0) ev_c (rv_I (by decide))) rv_I0) fun H3 e3 => ?_
      have hs0 : 0 ≤ (c % 2147483647 * 48271 + 7919 * (k : Int) * (k : Int) + 104729 * (k : Int) + 97) % 2147483646 := Int.emod_nonneg _ (by decide)
      have hs1 : (c % 2147483647 * 48271 + 7919 * (k : Int) * (k : Int) + 104729 * (k : Int) + 97) % 2147483646 < 2147483646 := Int.emod_lt_of_pos _ (by decide)
      generalize (c % 2147483647 * 48271 + 7919 * (k : Int) * (k : Int) + 104729 * (k : Int) + 97) % 2147483646 = st at hs0 hs1
      refine s_retL (el_lst (ea_cons (ev_op (ev_var rfl) (ev_cb (ea_cons (ev_op (ev_var rfl) (ev_op ev_c ev_c (rv_I ⟨by decide, by decide, by decide⟩)) (rv_I0)) ea_nil) rc_intB) (rv_I (.inr ⟨by split <;> decide, by split <;> decide⟩))) (ea_cons (ev_var rfl) ea_nil)) (by show 2 ≤ 100000; decide)) fun p H4 hp e4 hp4 => ?_
      refine kk p H4 ?_ (e1.trans (e2.trans (e3.trans e4))) ⟨_, _, hp4, ?_, by omega, by omega⟩
      · exact fresh_back (e1.trans (e2.trans e3)) hp
      · refine Int.mul_nonneg hc0 ?_
        split <;> decide
/-! ### large, steps -/
def largeA : List PyData → Prop := fun ds => ∃ m : Int, ds = [.int m] ∧ 0 < m
def largeG : List PyData → PyData → Prop := fun ds d => ∃ m r : Int, ds = [.int m] ∧ d = .int r ∧ 0 ≤ r ∧ r < m
theorem ok__law_large (T : Txt w K mg) : Def P w K mg base CX0 2 "_law_large" ["_law_bag_here", "_law_many"] (spB K largeA largeG) := by
  have D__law_draw := ok__law_draw (P := P) (base := base) T
  refine mkDef T.F__law_large T.g__law_large sc__law_large (fun _ _ _ _ _ _ us hl => match us, hl with | [_, _], _ => rfl) (fun vs H Q E h => ?_) (fun cdv A outer s H vs Q E hr h => ?_)
  · obtain ⟨W, b, xs, ds, _, _, rfl, hd, ⟨m, rfl, _⟩, _⟩ := h
    have := dpAll_len hd
    show xs.length + 1 = 2
    rw [this]; rfl
  · obtain ⟨W, b, xs, ds, hB, j, rfl, hd, ⟨m, rfl, hm0⟩, k⟩ := h
    obtain ⟨x, rfl⟩ := len1 (dpAll_len hd)
    obtain ⟨_, e, hx⟩ := dp1 hd
    cases e
    cases dpI hx
    refine ⟨_, (PSs.nox (pss_cons (ps_set (i := 2) sc__law_large.nd rfl (Or.inl rfl) pe_int)
      (pss_cons (ps_set (i := 3) sc__law_large.nd rfl (Or.inl rfl) pe_int)
      (pss_cons (ps_while PassesOwn.never (pt_cmpR op_lt (pv 3) (pv 1) (nomark _)) (pss_cons (ps_set (i := 2) sc__law_large.nd rfl (Or.inl rfl) (pe_op op_add (pe_op op_mul (pv 2) pe_int) (pe_callD D__law_draw (hr.mono (by omega)) rfl pass0 (pa_cons (pv 0) (pa_cons pe_int pa_nil)))))
      (pss_one (ps_set (i := 3) sc__law_large.nd rfl (Or.inl rfl) (pe_op op_mul (pv 3) pe_int)))))
      (pss_one (ps_ret (pe_op op_mod (pv 2) (pv 1)))))))), ?_⟩
    refine q_asg ev_c fun H1 e1 => q_asg ev_c fun H2 e2 => ?_
    have le0 : W.Le H H2 := .of_same j (e1.trans e2)
    refine q_while (fun mu σ' H' => ∃ nu ro : Int, σ' = [some (.ref b), some (.int m), some (.int nu), some (.int ro)] ∧ 0 ≤ nu ∧ 1 ≤ ro ∧ W.Le H H' ∧ mu = (m - ro).toNat) (m - 1).toNat ⟨0, 1, rfl, by decide, by decide, le0, rfl⟩ fun mu σ' H' hw => ?_
    obtain ⟨nu, ro, rfl, hnu, hro, le1, rfl⟩ := hw
    refine ⟨decide (ro < m), et_test (ev_op (ev_var rfl) (ev_var rfl) rv_lt), fun hlt H3 e3 => ?_, fun hge H3 e3 => ?_⟩
    · have hlt : ro < m := of_decide_eq_true hlt
      refine ⟨fun σ' H' => ∃ nu' : Int, σ' = [some (.ref b), some (.int m), some (.int nu'), some (.int (ro * 1048576))] ∧ 0 ≤ nu' ∧ W.Le H H', ?_, ?_⟩
      · rintro σ2 H4 ⟨nu', rfl, h1, h2⟩
        exact ⟨_, by omega, nu', ro * 1048576, rfl, h1, by omega, h2, rfl⟩
      · have le2 : W.Le H H3 := le1.trans (.of_same le1.j e3)
        refine m_asg (K := K) (P := IsI fun i => 0 ≤ i) le2.j (em_opI0 (P1 := fun i => 0 ≤ i) (P2 := fun i => 0 ≤ i) (em_opI (P1 := fun i => i = nu) (P2 := fun i => i = 1048576) (em_var rfl (.int nu) ⟨nu, rfl, rfl⟩) (em_int ⟨_, rfl, rfl⟩) ?_) (Em.imp (em_drawN rfl hB) ?_) ?_) ?_
        · rintro i j rfl rfl
          exact ⟨.inr ⟨by decide, by decide⟩, by omega⟩
        · rintro d ⟨r, rfl, h1, h2⟩
          exact ⟨r, rfl, h1⟩
        · intro i j h1 h2
          show 0 ≤ i + j
          omega
        · rintro v d H4 le4 hd ⟨nu', rfl, h1⟩
          cases dpI hd
          refine s_asg (ev_op (ev_var rfl) ev_c (rv_I (.inr ⟨by decide, by decide⟩))) fun H5 e5 => ?_
          exact ⟨nu', rfl, h1, le2.trans (le4.trans (.of_same le4.j e5))⟩
    · refine s_ret (ev_op (ev_var rfl) (ev_var rfl) (rv_I hm0)) fun H4 e4 => ?_
      have le2 : W.Le H H4 := le1.trans (.of_same le1.j (e3.trans e4))
      exact k _ _ H4 le2 (.int _) ⟨m, _, rfl, rfl, Int.emod_nonneg _ (by omega), Int.emod_lt_of_pos _ hm0⟩
end

end Nt

namespace Nt
open PySem PySem.Spec PyProof.Rows L2 Evl
def stepsG : List PyData → PyData → Prop := fun _ d => ∃ i : Int, d = .int i ∧ 1 ≤ i ∧ i ≤ 1000000000000000000000000000000
def noA : List PyData → Prop := fun ds => ds = []
def termG : List PyData → PyData → Prop := fun _ d => isTerm d = true
def condG : List PyData → PyData → Prop := fun _ d => isCond d = true
def kindA : List PyData → Prop := fun ds => ∃ kind : Str, ds = [.str kind] ∧ okKind kind
def kindG : List PyData → PyData → Prop := fun _ d => ∃ kind : Str, d = .str kind ∧ okKind kind
def okSimple (kind : Str) (d : PyData) : Prop := ∃ z ps, d = .tuple (.str z :: ps) ∧ (words kind).contains z = true ∧ chk z ps = true
def simpleG : List PyData → PyData → Prop := fun ds d => ∃ kind : Str, ds = [.str kind] ∧ okSimple kind d
theorem ok20 {n : Nat} (h : Nat.ble n 20000 = true := by rfl) : n ≤ 20000 := Nat.le_of_ble_eq_true h
theorem len_noA {W : Wd} {K : PySem.W.Frag} {H : Hp} {xs : List V} {ds : List PyData} (h : DpAll K H xs ds) (e : noA ds) : xs = [] := by
  cases e
  cases h
  rfl
theorem atI_ab {i : Int} (h : 0 ≤ i ∧ i < 2) : ∃ c, ("ab" : Str).length ≤ 20000 ∧ atI ("ab" : Str).cps.toList i = some c ∧ vars.contains ⟨#[c]⟩ = true := by
  have h2 : i = 0 ∨ i = 1 := by omega
  rcases h2 with rfl | rfl
  · exact ⟨97, by decide +kernel, by decide +kernel, by decide +kernel⟩
  · exact ⟨98, by decide +kernel, by decide +kernel, by decide +kernel⟩
theorem atI_dirs {i : Int} (h : 0 ≤ i ∧ i < 3) : ∃ c, ("+-=" : Str).length ≤ 20000 ∧ atI ("+-=" : Str).cps.toList i = some c ∧ dirs.contains ⟨#[c]⟩ = true := by
  have h2 : i = 0 ∨ i = 1 ∨ i = 2 := by omega
  rcases h2 with rfl | rfl | rfl
  · exact ⟨43, by decide +kernel, by decide +kernel, by decide +kernel⟩
  · exact ⟨45, by decide +kernel, by decide +kernel, by decide +kernel⟩
  · exact ⟨61, by decide +kernel, by decide +kernel, by decide +kernel⟩
section
variable {W : Wd} {K : PySem.W.Frag} {σ : L2.St} {H : Hp} {b : Addr} {i : Nat} {E : XK}
theorem em_ab {te : TE} (h : Em W K te σ H (IsI fun r => 0 ≤ r ∧ r < 2)) : Em W K (tOp rIxS (tC (.str "ab")) te) σ H (IsS fun s => vars.contains s = true) :=
  em_ixS (P1 := fun s => s = "ab") (em_str ⟨_, rfl, rfl⟩) h fun s i hs hi => by subst hs; exact atI_ab hi
theorem em_no {G : List PyData → PyData → Prop} (h0 : σ[i]? = some (some (.ref b))) (hb : HasBag W b) : Em W K (tCall (spB K noA G) [] E (tCons (tVar i) tNil)) σ H (G []) :=
  Em.imp (em_help (A' := noA) h0 hb (ema_nil rfl) fun _ h => h) fun d ⟨ds, h, g⟩ => by cases h; exact g
end
theorem at_two {d0 d1 : PyData} {P : PyData → Prop} {i : Int} (h : 0 ≤ i ∧ i < 2) (h0 : P d0) (h1 : P d1) : ∃ d, atI [d0, d1] i = some d ∧ P d := by
  have h2 : i = 0 ∨ i = 1 := by omega
  rcases h2 with rfl | rfl
  · exact ⟨d0, atI_nat (j := 0) rfl, h0⟩
  · exact ⟨d1, atI_nat (j := 1) rfl, h1⟩
theorem at_three {d0 d1 d2 : PyData} {P : PyData → Prop} {i : Int} (h : 0 ≤ i ∧ i < 3) (h0 : P d0) (h1 : P d1) (h2 : P d2) : ∃ d, atI [d0, d1, d2] i = some d ∧ P d := by
  have h3 : i = 0 ∨ i = 1 ∨ i = 2 := by omega
  rcases h3 with rfl | rfl | rfl
  · exact ⟨d0, atI_nat (j := 0) rfl, h0⟩
  · exact ⟨d1, atI_nat (j := 1) rfl, h1⟩
  · exact ⟨d2, atI_nat (j := 2) rfl, h2⟩
section
variable {P : Program} {w : World} {K : PySem.W.Frag} {mg : Str → Option Value} {base : Heap}
theorem em_pow {W : Wd} {σ : L2.St} {H : Hp} {n m : Int} {P : Int → Prop} (hc : CPow n m) (p : P (n ^ m.toNat)) : Em W K (tOp (rI CPow fun i j => .int (i ^ j.toNat)) (tC (.int n)) (tC (.int m))) σ H (IsI P) :=
  em_opI (P1 := fun i => i = n) (P2 := fun i => i = m) (em_int ⟨_, rfl, rfl⟩) (em_int ⟨_, rfl, rfl⟩) fun i j h1 h2 => by subst h1 h2; exact ⟨hc, p⟩
theorem ok__law_steps (T : Txt w K mg) : Def P w K mg base CX0 3 "_law_steps" ["_law_bag_here"] (spB K noA stepsG) := by
  have D__law_draw := ok__law_draw (P := P) (base := base) T
  have D__law_large := ok__law_large (P := P) (base := base) T
  refine mkDef T.F__law_steps T.g__law_steps sc__law_steps (fun _ _ _ _ _ _ us hl => match us, hl with | [_], _ => rfl) (fun vs H Q E h => ?_) (fun cdv A outer s H vs Q E hr h => ?_)
  · obtain ⟨W, b, xs, ds, _, _, rfl, hd, hA, _⟩ := h
    cases len_noA (W := W) hd hA; rfl
  · obtain ⟨W, b, xs, ds, hB, j, rfl, hd, hA, k⟩ := h
    cases len_noA (W := W) hd hA
    refine ⟨_, (PSs.nox (pss_one (ps_ret (pe_ix ix_list (pe_lst (pa_cons (pe_op op_add pe_int (pe_callD D__law_draw (hr.mono (by omega)) rfl pass0 (pa_cons (pv 0) (pa_cons pe_int pa_nil)))) (pa_cons (pe_op op_add pe_int (pe_callD D__law_large (hr.mono (by omega)) rfl pass0 (pa_cons (pv 0) (pa_cons (pe_op op_pow pe_int pe_int) pa_nil)))) (pa_cons (pe_op op_sub (pe_op op_pow pe_int pe_int) (pe_callD D__law_draw (hr.mono (by omega)) rfl pass0 (pa_cons (pv 0) (pa_cons pe_int pa_nil)))) pa_nil)))) (pe_op op_fdiv (pe_callD D__law_draw (hr.mono (by omega)) rfl pass0 (pa_cons (pv 0) (pa_cons pe_int pa_nil))) pe_int) (fun _ _ => rfl))))), ?_⟩
    refine m_ret (K := K) (P := stepsG []) j (em_ixL (P1 := fun ds => ∃ d0 d1 d2, ds = [d0, d1, d2] ∧ stepsG [] d0 ∧ stepsG [] d1 ∧ stepsG [] d2) (P2 := fun i => 0 ≤ i ∧ i < 3) (em_lst (ema_cons (P1 := stepsG []) ?_ fun d0 h0 => ema_cons (P1 := stepsG []) ?_ fun d1 h1 => ema_cons (P1 := stepsG []) ?_ fun d2 h2 => ema_nil ⟨ok20, _, rfl, d0, d1, d2, rfl, h0, h1, h2⟩)) ?_ ?_) fun v d H1 e hd p => k v d H1 e hd (by cases hA; exact p)
    · exact Em.imp (em_opI0 (P1 := fun i => i = 1) (em_int ⟨_, rfl, rfl⟩) (em_drawN rfl hB) (P := fun i => 1 ≤ i ∧ i ≤ 4) fun i j h1 h2 => by subst h1; show 1 ≤ 1 + j ∧ 1 + j ≤ 4; omega) fun d ⟨i, e, h1, h2⟩ => ⟨i, e, h1, by omega⟩
    · refine Em.imp (em_opI0 (P1 := fun i => i = 1) (P2 := fun i => 0 ≤ i ∧ i < 1000000000000000000000000000000) (em_int ⟨_, rfl, rfl⟩) (Em.imp (em_help (A := largeA) (G := largeG) (A' := fun ds => ds = [.int 1000000000000000000000000000000]) rfl hB (ema_cons (P1 := fun d => d = .int 1000000000000000000000000000000) (Em.imp (em_pow (P := fun i => i = 1000000000000000000000000000000) ⟨by decide, by decide, by decide⟩ (by decide)) ?_) fun d hd => ema_nil (by rw [hd])) ?_) ?_) (P := fun i => 1 ≤ i ∧ i ≤ 1000000000000000000000000000000) fun i j h1 h2 => by subst h1; show 1 ≤ 1 + j ∧ 1 + j ≤ _; omega) fun d h => h
      · rintro d ⟨i, rfl, rfl⟩; rfl
      · rintro ds rfl; exact ⟨_, rfl, by decide⟩
      · rintro d ⟨ds, rfl, m, r, e1, rfl, h1, h2⟩
        have : m = 1000000000000000000000000000000 := by injection e1 with e1; injection e1 with e1; exact e1.symm
        subst this
        exact ⟨r, rfl, h1, h2⟩
    · exact Em.imp (em_opI0 (P1 := fun i => i = 1000000000000000000000000000000) (em_pow ⟨by decide, by decide, by decide⟩ (by decide)) (em_drawN rfl hB) (P := fun i => 1 ≤ i ∧ i ≤ 1000000000000000000000000000000) fun i j h1 h2 => by subst h1; show 1 ≤ _ - j ∧ _ - j ≤ _; omega) fun d h => h
    · exact em_opI (P1 := fun i => 0 ≤ i ∧ i < 8) (P2 := fun i => i = 3) (em_drawN rfl hB) (em_int ⟨_, rfl, rfl⟩) fun i j h1 h2 => by subst h2; exact ⟨⟨by decide, by decide⟩, by show 0 ≤ i / 3 ∧ i / 3 < 3; omega⟩
    · rintro ds i ⟨d0, d1, d2, rfl, h0, h1, h2⟩ hi
      exact at_three hi h0 h1 h2
theorem ok__law_term (T : Txt w K mg) : Def P w K mg base CX0 2 "_law_term" ["_law_bag_here"] (spB K noA termG) := by
  have D__law_draw := ok__law_draw (P := P) (base := base) T
  refine mkDef T.F__law_term T.g__law_term sc__law_term (fun _ _ _ _ _ _ us hl => match us, hl with | [_], _ => rfl) (fun vs H Q E h => ?_) (fun cdv A outer s H vs Q E hr h => ?_)
  · obtain ⟨W, b, xs, ds, _, _, rfl, hd, hA, _⟩ := h
    cases len_noA (W := W) hd hA; rfl
  · obtain ⟨W, b, xs, ds, hB, j, rfl, hd, hA, k⟩ := h
    cases len_noA (W := W) hd hA
    refine ⟨_, (PSs.nox (pss_cons (ps_set (i := 1) sc__law_term.nd rfl (Or.inl rfl) (pe_callD D__law_draw (hr.mono (by omega)) rfl pass0 (pa_cons (pv 0) (pa_cons pe_int pa_nil))))
      (pss_cons (ps_if (pt_cmpR op_gt (pv 1) pe_int (nomark _)) (pss_one (ps_ret (pe_ix ix_str pe_str (pe_op op_mod (pv 1) pe_int) (fun _ _ => rfl)))) pss_nil)
      (pss_one (ps_ret (pv 1)))))), ?_⟩
    refine m_asg (K := K) j (em_drawN rfl hB) ?_
    rintro v d H1 e1 hd ⟨r, rfl, h1, h2⟩
    cases dpI hd
    refine m_when e1.j (emt_test (em_cmpI (K := K) (P1 := fun i => i = r) (P2 := fun i => i = 15) (P := fun b => b = decide (15 < r)) (em_var rfl (.int r) ⟨r, rfl, rfl⟩) (em_int ⟨_, rfl, rfl⟩) fun i j hi hj => by rw [hi, hj])) ?_ ?_
    · intro hb H2 e2
      refine m_ret (K := K) e2.j (em_ab (em_opI (P1 := fun i => i = r) (P2 := fun i => i = 2) (em_var rfl (.int r) ⟨r, rfl, rfl⟩) (em_int ⟨_, rfl, rfl⟩) fun i j hi hj => by subst hj; exact ⟨by decide, by show 0 ≤ i % 2 ∧ i % 2 < 2; omega⟩)) ?_
      rintro v d H3 e3 hd ⟨s, rfl, hs⟩
      exact k _ _ H3 (e1.trans (e2.trans e3)) hd (by show (isVal _ || isOne vars (.str s)) = true; exact hs)
    · intro hb H2 e2
      have hb : ¬ (15 < r) := of_decide_eq_false hb.symm
      refine m_ret (K := K) (P := IsI fun i => i = r) e2.j (em_var rfl (.int r) ⟨r, rfl, rfl⟩) ?_
      rintro v d H3 e3 hd3 ⟨i, rfl, rfl⟩
      refine k _ _ H3 (e1.trans (e2.trans e3)) hd3 ?_
      show (isVal (.int i) || isOne vars (.int i)) = true
      have : isVal (.int i) = true := by
        show (decide (0 ≤ i) && decide (i < 16)) = true
        rw [decide_eq_true h1, decide_eq_true (by omega)]; rfl
      rw [this]; rfl
theorem ok__law_condition (T : Txt w K mg) : Def P w K mg base CX0 3 "_law_condition" ["_law_bag_here"] (spB K noA condG) := by
  have D__law_draw := ok__law_draw (P := P) (base := base) T
  have D__law_term := ok__law_term (P := P) (base := base) T
  refine mkDef T.F__law_condition T.g__law_condition sc__law_condition (fun _ _ _ _ _ _ us hl => match us, hl with | [_], _ => rfl) (fun vs H Q E h => ?_) (fun cdv A outer s H vs Q E hr h => ?_)
  · obtain ⟨W, b, xs, ds, _, _, rfl, hd, hA, _⟩ := h
    cases len_noA (W := W) hd hA; rfl
  · obtain ⟨W, b, xs, ds, hB, j, rfl, hd, hA, k⟩ := h
    cases len_noA (W := W) hd hA
    refine ⟨_, (PSs.nox (pss_one (ps_ret (pe_tup (pa_cons (pe_ix ix_str pe_str (pe_callD D__law_draw (hr.mono (by omega)) rfl pass0 (pa_cons (pv 0) (pa_cons pe_int pa_nil))) (fun _ _ => rfl)) (pa_cons (pe_ix ix_list (pe_lst (pa_cons pe_str (pa_cons pe_str (pa_cons pe_str pa_nil)))) (pe_callD D__law_draw (hr.mono (by omega)) rfl pass0 (pa_cons (pv 0) (pa_cons pe_int pa_nil))) (fun _ _ => rfl)) (pa_cons (pe_callD D__law_term (hr.mono (by omega)) rfl pass0 (pa_cons (pv 0) pa_nil)) pa_nil))))))), ?_⟩
    refine m_ret (K := K) (P := condG []) j (em_tup (ema_cons (em_ab (em_drawN rfl hB)) fun d0 h0 => ema_cons (P1 := IsS fun s => comps.contains s = true) (em_ixL (P1 := fun ds => ds = [.str "==", .str "!=", .str "<"]) (em_lst (ema_cons (P1 := fun d => d = .str "==") (em_str rfl) fun _ h => ema_cons (P1 := fun d => d = .str "!=") (em_str rfl) fun _ h' => ema_cons (P1 := fun d => d = .str "<") (em_str rfl) fun _ h'' => ema_nil ⟨ok20, _, rfl, by rw [h, h', h'']⟩)) (em_drawN rfl hB) ?_) fun d1 h1 => ema_cons (em_no rfl hB) fun d2 h2 => ema_nil ⟨ok20, ?_⟩)) fun v d H1 e hd p => k v d H1 e hd (by cases hA; exact p)
    · rintro ds i rfl hi
      exact at_three (P := IsS fun s => comps.contains s = true) hi ⟨_, rfl, by decide +kernel⟩ ⟨_, rfl, by decide +kernel⟩ ⟨_, rfl, by decide +kernel⟩
    · obtain ⟨s0, rfl, h0⟩ := h0
      obtain ⟨s1, rfl, h1⟩ := h1
      show (vars.contains s0 && (comps.contains s1 && isTerm d2)) = true
      rw [h0, h1]
      exact h2
theorem ok__law_kind (T : Txt w K mg) : Def P w K mg base CX0 2 "_law_kind" ["_law_bag_here"] (spB K noA kindG) := by
  have D__law_draw := ok__law_draw (P := P) (base := base) T
  refine mkDef T.F__law_kind T.g__law_kind sc__law_kind (fun _ _ _ _ _ _ us hl => match us, hl with | [_], _ => rfl) (fun vs H Q E h => ?_) (fun cdv A outer s H vs Q E hr h => ?_)
  · obtain ⟨W, b, xs, ds, _, _, rfl, hd, hA, _⟩ := h
    cases len_noA (W := W) hd hA; rfl
  · obtain ⟨W, b, xs, ds, hB, j, rfl, hd, hA, k⟩ := h
    cases len_noA (W := W) hd hA
    refine ⟨_, (PSs.nox (pss_one (ps_ret (pe_ix ix_list (pe_lst (pa_cons pe_str (pa_cons pe_str pa_nil))) (pe_callD D__law_draw (hr.mono (by omega)) rfl pass0 (pa_cons (pv 0) (pa_cons pe_int pa_nil))) (fun _ _ => rfl))))), ?_⟩
    refine m_ret (K := K) (P := kindG []) j (em_ixL (P1 := fun ds => ds = [.str "teller", .str "collector"]) (em_lst (ema_cons (P1 := fun d => d = .str "teller") (em_str rfl) fun _ h => ema_cons (P1 := fun d => d = .str "collector") (em_str rfl) fun _ h' => ema_nil ⟨ok20, _, rfl, by rw [h, h']⟩)) (em_drawN rfl hB) ?_) fun v d H1 e hd p => k v d H1 e hd (by cases hA; exact p)
    rintro ds i rfl hi
    exact at_two (P := kindG []) hi ⟨_, rfl, .inl rfl⟩ ⟨_, rfl, .inr rfl⟩
end

end Nt

namespace Nt
open PySem PySem.Spec PyProof.Rows L2 Evl
theorem words_both {kind : Str} (h : okKind kind) {z : Str} (hz : z = "wait" ∨ z = "set" ∨ z = "add") : (words kind).contains z = true := by
  rcases h with rfl | rfl <;> rcases hz with rfl | rfl | rfl <;> decide +kernel
theorem words_coll {z : Str} (hz : z = "grow" ∨ z = "list") : (words "collector").contains z = true := by
  rcases hz with rfl | rfl <;> decide +kernel
theorem words_tell {z : Str} (hz : z = "answer" ∨ z = "ask") : (words "teller").contains z = true := by
  rcases hz with rfl | rfl <;> decide +kernel
theorem isVal_of {i : Int} (h1 : 0 ≤ i) (h2 : i < 16) : isVal (.int i) = true := by
  show (decide (0 ≤ i) && decide (i < 16)) = true
  rw [decide_eq_true h1, decide_eq_true h2]; rfl
section
variable {P : Program} {w : World} {K : PySem.W.Frag} {mg : Str → Option Value} {base : Heap}
theorem ok__law_simple (T : Txt w K mg) : Def P w K mg base CX0 4 "_law_simple" ["_law_bag_here", "_law_kind_here"] (spB K kindA simpleG) := by
  have D__law_draw := ok__law_draw (P := P) (base := base) T
  have D__law_term := ok__law_term (P := P) (base := base) T
  have D__law_steps := ok__law_steps (P := P) (base := base) T
  refine mkDef T.F__law_simple T.g__law_simple sc__law_simple (fun _ _ _ _ _ _ us hl => match us, hl with | [_, _], _ => rfl) (fun vs H Q E h => ?_) (fun cdv A outer s H vs Q E hr h => ?_)
  · obtain ⟨W, b, xs, ds, _, _, rfl, hd, ⟨kind, rfl, _⟩, _⟩ := h
    have := dpAll_len hd
    show xs.length + 1 = 2
    rw [this]; rfl
  · obtain ⟨W, b, xs, ds, hB, j, rfl, hd, ⟨kind, rfl, hkd⟩, k⟩ := h
    obtain ⟨x, rfl⟩ := len1 (dpAll_len hd)
    obtain ⟨_, e, hx⟩ := dp1 hd
    cases e
    cases dpS hx
    refine ⟨_, (PSs.nox (pss_cons (ps_set (i := 2) sc__law_simple.nd rfl (Or.inl rfl) (pe_callD D__law_draw (hr.mono (by omega)) rfl pass0 (pa_cons (pv 0) (pa_cons pe_int pa_nil))))
      (pss_cons (ps_set (i := 3) sc__law_simple.nd rfl (Or.inl rfl) (pe_ix ix_str pe_str (pe_callD D__law_draw (hr.mono (by omega)) rfl pass0 (pa_cons (pv 0) (pa_cons pe_int pa_nil))) (fun _ _ => rfl)))
      (pss_cons (ps_if (pt_cmpR op_eq (pv 2) pe_int (nomark _)) (pss_one (ps_ret (pe_tup (pa_cons pe_str (pa_cons (pe_callD D__law_steps (hr.mono (by omega)) rfl pass0 (pa_cons (pv 0) pa_nil)) pa_nil))))) pss_nil)
      (pss_cons (ps_if (pt_cmpR op_lt (pv 2) pe_int (nomark _)) (pss_one (ps_ret (pe_tup (pa_cons pe_str (pa_cons (pv 3) (pa_cons (pe_callD D__law_draw (hr.mono (by omega)) rfl pass0 (pa_cons (pv 0) (pa_cons pe_int pa_nil))) pa_nil)))))) pss_nil)
      (pss_cons (ps_if (pt_cmpR op_lt (pv 2) pe_int (nomark _)) (pss_one (ps_ret (pe_tup (pa_cons pe_str (pa_cons (pv 3) (pa_cons (pe_callD D__law_term (hr.mono (by omega)) rfl pass0 (pa_cons (pv 0) pa_nil)) pa_nil)))))) pss_nil)
      (pss_cons (ps_if (pt_cmpR op_eq (pv 1) pe_str (nomark _)) (pss_one (ps_ret (pe_tup (pa_cons (pe_ix ix_list (pe_lst (pa_cons pe_str (pa_cons pe_str pa_nil))) (pe_op op_mod (pv 2) pe_int) (fun _ _ => rfl)) (pa_cons (pe_callD D__law_term (hr.mono (by omega)) rfl pass0 (pa_cons (pv 0) pa_nil)) pa_nil))))) pss_nil)
      (pss_cons (ps_if (PW.pt (pw_and (pt_cmpR op_eq (pv 2) pe_int (nomark _)) (pw_and1 (pt_cmpR op_eq (pe_callD D__law_draw (hr.mono (by omega)) rfl pass0 (pa_cons (pv 0) (pa_cons pe_int pa_nil))) pe_int (nomark _))))) (pss_one (ps_ret (pe_tup (pa_cons pe_str (pa_cons (pe_callD D__law_draw (hr.mono (by omega)) rfl pass0 (pa_cons (pv 0) (pa_cons pe_int pa_nil))) pa_nil))))) pss_nil)
      (pss_one (ps_ret (pe_tup (pa_cons pe_str (pa_cons (pe_ix ix_str pe_str (pe_callD D__law_draw (hr.mono (by omega)) rfl pass0 (pa_cons (pv 0) (pa_cons pe_int pa_nil))) (fun _ _ => rfl)) (pa_cons (pe_callD D__law_term (hr.mono (by omega)) rfl pass0 (pa_cons (pv 0) pa_nil)) (pa_cons (pv 3) pa_nil))))))))))))))), ?_⟩
    refine m_asg (K := K) j (em_drawN rfl hB) ?_
    rintro v d H1 e1 hd1 ⟨r, rfl, hr0, hr8⟩
    cases dpI hd1
    refine m_asg (K := K) e1.j (em_ab (em_drawN rfl hB)) ?_
    rintro v d H2 e2 hd2 ⟨sv, rfl, hsv⟩
    cases dpS hd2
    have er {H3 : Hp} : Em W K (tVar 2) [some (.ref b), some (.str kind), some (.int r), some (.str sv)] H3 (IsI fun i => i = r) := em_var rfl (.int r) ⟨r, rfl, rfl⟩
    have evr {H3 : Hp} : Em W K (tVar 3) [some (.ref b), some (.str kind), some (.int r), some (.str sv)] H3 (fun d => d = .str sv) := em_var rfl (.str sv) rfl
    have ek {H3 : Hp} : Em W K (tVar 1) [some (.ref b), some (.str kind), some (.int r), some (.str sv)] H3 (IsS fun i => i = kind) := em_var rfl (.str kind) ⟨kind, rfl, rfl⟩
    have fin : ∀ {te : TE} {H3 : Hp} {D : Ends}, D.rt = Q → W.Le H2 H3 → Em W K te [some (.ref b), some (.str kind), some (.int r), some (.str sv)] H3 (okSimple kind) → tRet te D [some (.ref b), some (.str kind), some (.int r), some (.str sv)] H3 := fun {te H3 D} hD e3 h => m_ret e3.j h fun v d H4 e4 hd p => by
      rw [hD]
      exact k v d H4 (e1.trans (e2.trans (e3.trans e4))) hd ⟨kind, rfl, p⟩
    have cmp {g : Int → Int → Bool} {n : Int} {H3 : Hp} : EmT W (tTest (tOp (rI0 fun i j => .bl (g i j)) (tVar 2) (tC (.int n)))) [some (.ref b), some (.str kind), some (.int r), some (.str sv)] H3 (fun c => c = g r n) :=
      emt_test (em_cmpI (K := K) (P2 := fun i => i = n) er (em_int ⟨_, rfl, rfl⟩) fun i j hi hj => by rw [hi, hj])
    have eqt {n : Int} {H3 : Hp} : EmT W (tTest (tOp rEq (tVar 2) (tC (.int n)))) [some (.ref b), some (.str kind), some (.int r), some (.str sv)] H3 (fun c => c = decide (r = n)) :=
      emt_test (em_eqI (K := K) (P2 := fun i => i = n) er (em_int ⟨_, rfl, rfl⟩) fun i j hi hj => by rw [hi, hj])
    refine m_when e2.j eqt (fun _ H3 e3 => fin rfl e3 ?_) fun hn0 H3 e3 => ?_
    · refine em_tup (ema_cons (P1 := fun d => d = .str "wait") (em_str rfl) fun d0 h0 => ema_cons (em_no rfl hB) fun d1 h1 => ema_nil ⟨ok20, ?_⟩)
      obtain ⟨i, rfl, h1, h2⟩ := h1
      subst h0
      refine ⟨"wait", _, rfl, words_both hkd (.inl rfl), ?_⟩
      show (decide (1 ≤ i) && decide (i ≤ 1000000000000000000000000000000)) = true
      rw [decide_eq_true h1, decide_eq_true h2]; rfl
    refine m_when e3.j cmp (fun _ H4 e4 => fin rfl (e3.trans e4) ?_) fun hn1 H4 e4 => ?_
    · refine em_tup (ema_cons (P1 := fun d => d = .str "set") (em_str rfl) fun d0 h0 => ema_cons evr fun d1 h1 => ema_cons (em_drawN rfl hB) fun d2 h2 => ema_nil ⟨ok20, ?_⟩)
      obtain ⟨i, rfl, h2, h3⟩ := h2
      subst h0 h1
      refine ⟨"set", _, rfl, words_both hkd (.inr (.inl rfl)), ?_⟩
      show (vars.contains sv && isVal (.int i)) = true
      rw [hsv, isVal_of h2 h3]; rfl
    refine m_when e4.j cmp (fun _ H5 e5 => fin rfl (e3.trans (e4.trans e5)) ?_) fun hn2 H5 e5 => ?_
    · refine em_tup (ema_cons (P1 := fun d => d = .str "add") (em_str rfl) fun d0 h0 => ema_cons evr fun d1 h1 => ema_cons (em_no rfl hB) fun d2 h2 => ema_nil ⟨ok20, ?_⟩)
      subst h0 h1
      refine ⟨"add", _, rfl, words_both hkd (.inr (.inr rfl)), ?_⟩
      show (vars.contains sv && isTerm d2) = true
      rw [hsv, Bool.true_and]; exact h2
    have e35 := e3.trans (e4.trans e5)
    refine m_when e5.j (emt_test (em_eqS (K := K) (P2 := fun i => i = "collector") (P := fun c => c = decide (kind = "collector")) ek (em_str ⟨_, rfl, rfl⟩) fun i j hi hj => by rw [hi, hj])) (fun hc H6 e6 => fin rfl (e35.trans e6) ?_) fun hc H6 e6 => ?_
    · have hc : kind = "collector" := of_decide_eq_true hc.symm
      refine em_tup (ema_cons (P1 := fun d => d = .str "grow" ∨ d = .str "list") (em_ixL (P1 := fun ds => ds = [.str "grow", .str "list"]) (P2 := fun i => 0 ≤ i ∧ i < 2) (em_lst (ema_cons (P1 := fun d => d = .str "grow") (em_str rfl) fun _ h => ema_cons (P1 := fun d => d = .str "list") (em_str rfl) fun _ h' => ema_nil ⟨ok20, _, rfl, by rw [h, h']⟩)) (em_opI (P2 := fun i => i = 2) er (em_int ⟨_, rfl, rfl⟩) fun i j hi hj => by subst hj; exact ⟨by decide, by show 0 ≤ i % 2 ∧ i % 2 < 2; omega⟩) ?_) fun d0 h0 => ema_cons (em_no rfl hB) fun d1 h1 => ema_nil ⟨ok20, ?_⟩)
      · rintro ds i rfl hi
        exact at_two (P := fun d => d = .str "grow" ∨ d = .str "list") hi (.inl rfl) (.inr rfl)
      · rcases h0 with rfl | rfl
        · exact ⟨"grow", _, rfl, by rw [hc]; exact words_coll (.inl rfl), h1⟩
        · exact ⟨"list", _, rfl, by rw [hc]; exact words_coll (.inr rfl), h1⟩
    have hc : kind = "teller" := by
      rcases hkd with q | q
      · exact q
      · exact absurd q (of_decide_eq_false hc.symm)
    refine m_when e6.j (P := fun _ => True) (emt_and (P1 := fun _ => True) (EmT.imp eqt fun _ _ => trivial) (fun _ => emt_test (em_eqI (K := K) (P2 := fun _ => True) (em_drawN rfl hB) (em_int ⟨_, rfl, trivial⟩) fun _ _ _ _ => trivial)) fun _ => trivial) (fun _ H7 e7 => fin rfl (e35.trans (e6.trans e7)) ?_) fun _ H7 e7 => fin rfl (e35.trans (e6.trans e7)) ?_
    · refine em_tup (ema_cons (P1 := fun d => d = .str "answer") (em_str rfl) fun d0 h0 => ema_cons (em_drawN rfl hB) fun d1 h1 => ema_nil ⟨ok20, ?_⟩)
      obtain ⟨i, rfl, h2, h3⟩ := h1
      subst h0
      refine ⟨"answer", _, rfl, by rw [hc]; exact words_tell (.inl rfl), ?_⟩
      show (decide (0 ≤ i) && decide (i ≤ 1)) = true
      rw [decide_eq_true h2, decide_eq_true (by omega)]; rfl
    · refine em_tup (ema_cons (P1 := fun d => d = .str "ask") (em_str rfl) fun d0 h0 => ema_cons (P1 := IsS fun s => dirs.contains s = true) (em_ixS (P1 := fun s => s = "+-=") (em_str ⟨_, rfl, rfl⟩) (em_drawN rfl hB) fun s i hs hi => by subst hs; exact atI_dirs hi) fun d1 h1 => ema_cons (em_no rfl hB) fun d2 h2 => ema_cons evr fun d3 h3 => ema_nil ⟨ok20, ?_⟩)
      obtain ⟨sd, rfl, h1⟩ := h1
      subst h0 h3
      refine ⟨"ask", _, rfl, by rw [hc]; exact words_tell (.inr rfl), ?_⟩
      show (dirs.contains sd && (isTerm d2 && vars.contains sv)) = true
      have h2 : isTerm d2 = true := h2
      rw [h1, h2, hsv]; rfl
end

end Nt

namespace Nt
open PySem PySem.Spec PyProof.Rows L2 Evl
/-! ### k02: the mathematics -/
inductive Nst : Nat → PyData → PyData → Prop
  | zero (d : PyData) : Nst 0 d d
  | succ {n : Nat} {i b c d : PyData} (h : Nst n i b) (hc : isCond c = true) (hd : d = .tuple [.tuple [.str "while", c, b]] ∨ d = .tuple [.tuple [.str "if", c, b, .tuple []]] ∨ d = .tuple [.tuple [.str "if", c, .tuple [], b]]) : Nst (n + 1) i d
theorem sumO_one (o : Option Int) : sumO [o] = o := by
  cases o with
  | none => rfl
  | some n => show some (n + 0) = some n; rw [Int.add_zero]
theorem sumO_nil : sumO [] = some 0 := rfl
theorem sumO_cons (o : Option Int) (l : List (Option Int)) : sumO (o :: l) = match o, sumO l with
    | some a, some b => some (a + b)
    | _, _ => none := by
  unfold sumO
  cases o with
  | none => rfl
  | some a =>
    rw [List.any_cons]
    show (if (false || l.any Option.isNone) = true then none else some (a + (l.map (·.getD 0)).sum)) = _
    rw [Bool.false_or]
    by_cases h : l.any Option.isNone = true
    · rw [if_pos h, if_pos h]
    · rw [if_neg h, if_neg h]
theorem sumO_append (k l : List (Option Int)) : sumO (k ++ l) = match sumO k, sumO l with
    | some a, some b => some (a + b)
    | _, _ => none := by
  induction k with
  | nil =>
    rw [List.nil_append, sumO_nil]
    cases sumO l with
    | none => rfl
    | some b => show _ = some (0 + b); rw [Int.zero_add]
  | cons o k ih =>
    rw [List.cons_append, sumO_cons, ih, sumO_cons]
    cases o with
    | none => rfl
    | some a =>
      cases sumO k with
      | none => rfl
      | some b =>
        cases sumO l with
        | none => rfl
        | some c => show some (a + (b + c)) = some (a + b + c); rw [Int.add_assoc]
theorem cntBody_nil (kind : Str) (f : Nat) : cntBody kind f (.tuple []) = some 0 := by cases f <;> rfl
theorem cntBody_S (kind : Str) (f : Nat) (ss : List PyData) : cntBody kind (f + 1) (.tuple ss) = sumO (ss.map (cntStmt kind (cntBody kind f))) := rfl
theorem cntBlk_one {kind : Str} {f : Nat} {c b d : PyData} (hc : isCond c = true) (hd : d = .tuple [.tuple [.str "while", c, b]] ∨ d = .tuple [.tuple [.str "if", c, b, .tuple []]] ∨ d = .tuple [.tuple [.str "if", c, .tuple [], b]]) : cntBody kind (f + 1) d = (cntBody kind f b).map (1 + ·) := by
  rcases hd with rfl | rfl | rfl
  · rw [cntBody_S, List.map_cons, List.map_nil, sumO_one, cntStmt_blk (by decide +kernel)]
    unfold cntBlock
    rw [if_pos ⟨by show 1 = nBod "while"; decide +kernel, hc⟩]
    show (sumO [cntBody kind f b]).map (1 + ·) = _
    rw [sumO_one]
  · rw [cntBody_S, List.map_cons, List.map_nil, sumO_one, cntStmt_blk (by decide +kernel)]
    unfold cntBlock
    rw [if_pos ⟨by show 2 = nBod "if"; decide +kernel, hc⟩]
    show (sumO [cntBody kind f b, cntBody kind f (.tuple [])]).map (1 + ·) = _
    rw [cntBody_nil, sumO_cons, sumO_one]
    cases cntBody kind f b with
    | none => rfl
    | some n => show some (1 + (n + 0)) = some (1 + n); rw [Int.add_zero]
  · rw [cntBody_S, List.map_cons, List.map_nil, sumO_one, cntStmt_blk (by decide +kernel)]
    unfold cntBlock
    rw [if_pos ⟨by show 2 = nBod "if"; decide +kernel, hc⟩]
    show (sumO [cntBody kind f (.tuple []), cntBody kind f b]).map (1 + ·) = _
    rw [cntBody_nil, sumO_cons, sumO_one]
    cases cntBody kind f b with
    | none => rfl
    | some n => show some (1 + (0 + n)) = some (1 + n); rw [Int.zero_add]
theorem cntBlk_zero {kind : Str} {c b d : PyData} (hd : d = .tuple [.tuple [.str "while", c, b]] ∨ d = .tuple [.tuple [.str "if", c, b, .tuple []]] ∨ d = .tuple [.tuple [.str "if", c, .tuple [], b]]) : cntBody kind 0 d = none := by
  rcases hd with rfl | rfl | rfl <;> rfl
theorem nst_cnt {kind : Str} {n : Nat} {i d : PyData} (h : Nst n i d) : ∀ f : Nat, cntBody kind f d = if n ≤ f then (cntBody kind (f - n) i).map ((n : Int) + ·) else none := by
  induction h with
  | zero d =>
    intro f
    rw [if_pos (Nat.zero_le _), Nat.sub_zero]
    cases cntBody kind f d with
    | none => rfl
    | some m => show some m = some ((0 : Int) + m); rw [Int.zero_add]
  | @succ n i b c d h hc hd ih =>
    intro f
    cases f with
    | zero => rw [cntBlk_zero hd, if_neg (by omega)]
    | succ f =>
      rw [cntBlk_one hc hd, ih f]
      by_cases hn : n ≤ f
      · rw [if_pos hn, if_pos (by omega), Nat.add_sub_add_right]
        cases cntBody kind (f - n) i with
        | none => rfl
        | some m => show some (1 + ((n : Int) + m)) = some (((n + 1 : Nat) : Int) + m); congr 1; omega
      · rw [if_neg hn, if_neg (by omega)]; rfl
theorem Sm.of_atoms {xs : List PyData} (h : xs.length ≤ 20000) (ha : ∀ x, x ∈ xs → Sm x) : Sm (.tuple xs) := .tuple h ha
theorem sm_isOne {ns : List Str} {d : PyData} (h : isOne ns d = true) : Sm d := by
  cases d <;> first | exact .str _ | cases h
theorem sm_isVal {d : PyData} (h : isVal d = true) : Sm d := by
  cases d <;> first | exact .int _ | cases h
theorem sm_isTerm {d : PyData} (h : isTerm d = true) : Sm d := by
  rcases Bool.or_eq_true_iff.mp h with h | h
  · exact sm_isVal h
  · exact sm_isOne h
theorem all2 {P : PyData → Prop} {a b : PyData} (ha : P a) (hb : P b) : ∀ x, x ∈ [a, b] → P x := by
  intro x hx
  rcases List.mem_cons.mp hx with rfl | hx
  · exact ha
  · rw [List.mem_singleton.mp hx]; exact hb
theorem all3 {P : PyData → Prop} {a b c : PyData} (ha : P a) (hb : P b) (hc : P c) : ∀ x, x ∈ [a, b, c] → P x := by
  intro x hx
  rcases List.mem_cons.mp hx with rfl | hx
  · exact ha
  · exact all2 hb hc x hx
theorem all4 {P : PyData → Prop} {a b c d : PyData} (ha : P a) (hb : P b) (hc : P c) (hd : P d) : ∀ x, x ∈ [a, b, c, d] → P x := by
  intro x hx
  rcases List.mem_cons.mp hx with rfl | hx
  · exact ha
  · exact all3 hb hc hd x hx
theorem all1 {P : PyData → Prop} {a : PyData} (ha : P a) : ∀ x, x ∈ [a] → P x := by
  intro x hx
  rw [List.mem_singleton.mp hx]; exact ha
theorem sm_isCond {d : PyData} (h : isCond d = true) : Sm d := by
  unfold isCond at h
  split at h
  · obtain ⟨h1, h2⟩ := He.ba h
    obtain ⟨h2, h3⟩ := He.ba h2
    exact .tuple ok20 (all3 (sm_isOne h1) (sm_isOne h2) (sm_isTerm h3))
  · cases h
theorem chk_len {z : Str} {ps : List PyData} (h : chk z ps = true) : ps.length ≤ 3 ∧ ∀ x, x ∈ ps → Sm x := by
  unfold chk at h
  split at h
  · by_cases hl : ps.length = 2
    · obtain ⟨a, b, rfl⟩ := len2 hl
      obtain ⟨h1, h2⟩ := He.ba h
      exact ⟨by simp, all2 (sm_isOne h1) (sm_isVal h2)⟩
    · rw [pSet_len hl] at h; cases h
  · split at h
    · by_cases hl : ps.length = 2
      · obtain ⟨a, b, rfl⟩ := len2 hl
        obtain ⟨h1, h2⟩ := He.ba h
        exact ⟨by simp, all2 (sm_isOne h1) (sm_isTerm h2)⟩
      · rw [pAdd_len hl] at h; cases h
    · split at h
      · by_cases hl : ps.length = 1
        · obtain ⟨a, rfl⟩ := len1 hl
          refine ⟨by simp, all1 ?_⟩
          cases a <;> first | exact .int _ | cases h
        · rw [pWait_len hl] at h; cases h
      · split at h
        · by_cases hl : ps.length = 3
          · obtain ⟨a, b, c, rfl⟩ := len3 hl
            obtain ⟨h1, h2⟩ := He.ba h
            obtain ⟨h2, h3⟩ := He.ba h2
            exact ⟨by simp, all3 (sm_isOne h1) (sm_isTerm h2) (sm_isOne h3)⟩
          · rw [pAsk_len hl] at h; cases h
        · split at h
          · by_cases hl : ps.length = 1
            · obtain ⟨a, rfl⟩ := len1 hl
              refine ⟨by simp, all1 ?_⟩
              cases a <;> first | exact .int _ | cases h
            · rw [pAns_len hl] at h; cases h
          · by_cases hl : ps.length = 1
            · obtain ⟨a, rfl⟩ := len1 hl
              exact ⟨by simp, all1 (sm_isTerm h)⟩
            · rw [pTerm_len hl] at h; cases h
theorem okSimple.sm {kind : Str} {d : PyData} (h : okSimple kind d) : Sm d := by
  obtain ⟨z, ps, rfl, _, h⟩ := h
  obtain ⟨h1, h2⟩ := chk_len h
  refine .tuple (by rw [List.length_cons]; omega) fun x hx => ?_
  rcases List.mem_cons.mp hx with rfl | hx
  · exact .str _
  · exact h2 x hx
theorem words_noblk {kind z : Str} (h : (words kind).contains z = true) : isBlk z = false := by
  have hm : z ∈ words kind := List.contains_iff_mem.mp h
  unfold words wordsT wordsC at hm
  split at hm <;> simp only [List.mem_cons, List.not_mem_nil, or_false] at hm <;> rcases hm with q | q | q | q | q <;> (rw [q]; decide +kernel)
theorem okSimple.cnt {kind : Str} {d : PyData} (h : okSimple kind d) (cb : PyData → Option Int) : cntStmt kind cb d = some 1 := by
  obtain ⟨z, ps, rfl, h1, h2⟩ := h
  rw [cntStmt_one (words_noblk h1), h1, h2]; rfl
theorem nst_sm {n : Nat} {i d : PyData} (h : Nst n i d) (hi : Sm i) : Sm d := by
  induction h with
  | zero d => exact hi
  | succ h hc hd ih =>
    have hb := ih hi
    have hc := sm_isCond hc
    have h0 : Sm (.tuple []) := .tuple ok20 fun x hx => by cases hx
    rcases hd with rfl | rfl | rfl
    · exact .tuple ok20 (all1 (.tuple ok20 (all3 (.str _) hc hb)))
    · exact .tuple ok20 (all1 (.tuple ok20 (all4 (.str _) hc hb h0)))
    · exact .tuple ok20 (all1 (.tuple ok20 (all4 (.str _) hc h0 hb)))
theorem simple_sum {kind : Str} {cb : PyData → Option Int} : ∀ {fs : List PyData}, (∀ d, d ∈ fs → okSimple kind d) → sumO (fs.map (cntStmt kind cb)) = some (fs.length : Int)
  | [], _ => rfl
  | d :: fs, h => by
    rw [List.map_cons, sumO_cons, (h d (List.mem_cons_self ..)).cnt, simple_sum fun x hx => h x (List.mem_cons_of_mem _ hx)]
    show some (1 + (fs.length : Int)) = some ((fs.length + 1 : Nat) : Int)
    congr 1; omega
theorem isProg_eq {kind : Str} {b : PyData} (h : okKind kind) : isProg (.tuple [.str kind, b]) = (match cntBody kind 4 b with
    | some n => decide (n ≤ 24)
    | none => false) := by
  have hz : (kind == "teller" || kind == "collector") = true := by rcases h with rfl | rfl <;> decide +kernel
  show ((kind == "teller" || kind == "collector") && _) = _
  rw [hz, Bool.true_and]
  all_goals rfl
/-- the whole program of k02 -/
theorem k02_whole {kind : Str} (hk : okKind kind) {deep : Nat} (hd : 1 ≤ deep) {inner body : PyData} {ls : List PyData} (hi : inner = .tuple ls) (hl : ls = [] ∨ ∃ s, ls = [s] ∧ okSimple kind s) (hn : Nst deep inner body) {fa fb : List PyData} (ha : ∀ d, d ∈ fa → okSimple kind d) (hb : ∀ d, d ∈ fb → okSimple kind d) {bs : List PyData} (hbs : body = .tuple bs) :
    isProg (.tuple [.str kind, .tuple (fa ++ bs ++ fb)]) = (decide ((fa.length : Int) + fb.length + deep + ls.length ≤ 24) && decide ((deep : Int) + ls.length ≤ 4)) := by
  rw [isProg_eq hk, cntBody_S, List.map_append, List.map_append, sumO_append, sumO_append, simple_sum ha, simple_sum hb]
  have h1 : sumO (bs.map (cntStmt kind (cntBody kind 3))) = cntBody kind 4 body := by rw [hbs]; rfl
  rw [h1, nst_cnt hn 4]
  rcases hl with rfl | ⟨s, rfl, hs⟩
  · subst hi
    rw [cntBody_nil]
    by_cases h4 : deep ≤ 4
    · rw [if_pos h4]
      show decide ((fa.length : Int) + ((deep : Int) + 0) + fb.length ≤ 24) = _
      have e1 : decide ((deep : Int) + (([] : List PyData).length : Int) ≤ 4) = true := decide_eq_true (by show (deep : Int) + 0 ≤ 4; omega)
      rw [e1, Bool.and_true]
      congr 1
      show ((fa.length : Int) + ((deep : Int) + 0) + fb.length ≤ 24) = ((fa.length : Int) + fb.length + deep + 0 ≤ 24)
      exact propext ⟨fun h => by omega, fun h => by omega⟩
    · rw [if_neg h4]
      have e1 : decide ((deep : Int) + (([] : List PyData).length : Int) ≤ 4) = false := decide_eq_false (by show ¬ ((deep : Int) + 0 ≤ 4); omega)
      rw [e1, Bool.and_false]
  · subst hi
    by_cases h4 : deep ≤ 3
    · rw [if_pos (by omega)]
      obtain ⟨f, hf⟩ : ∃ f, 4 - deep = f + 1 := ⟨3 - deep, by omega⟩
      rw [hf, cntBody_S, List.map_cons, List.map_nil, sumO_one, hs.cnt]
      show decide ((fa.length : Int) + ((deep : Int) + 1) + fb.length ≤ 24) = _
      have e1 : decide ((deep : Int) + (([s] : List PyData).length : Int) ≤ 4) = true := decide_eq_true (by show (deep : Int) + 1 ≤ 4; omega)
      rw [e1, Bool.and_true]
      congr 1
      show ((fa.length : Int) + ((deep : Int) + 1) + fb.length ≤ 24) = ((fa.length : Int) + fb.length + deep + 1 ≤ 24)
      exact propext ⟨fun h => by omega, fun h => by omega⟩
    · have e1 : decide ((deep : Int) + (([s] : List PyData).length : Int) ≤ 4) = false := decide_eq_false (by show ¬ ((deep : Int) + 1 ≤ 4); omega)
      rw [e1, Bool.and_false]
      by_cases h5 : deep ≤ 4
      · rw [if_pos h5]
        have : 4 - deep = 0 := by omega
        rw [this]; rfl
      · rw [if_neg h5]
theorem nst_tup {n : Nat} {i d : PyData} (h : Nst n i d) (hn : 1 ≤ n) : ∃ b, d = .tuple [b] := by
  cases h with
  | zero => omega
  | succ h hc hd => rcases hd with rfl | rfl | rfl <;> exact ⟨_, rfl⟩
theorem nst_isTup {n : Nat} {i d : PyData} (h : Nst n i d) (hi : ∃ ls, i = .tuple ls ∧ ls.length ≤ 1) : ∃ bs, d = .tuple bs ∧ bs.length ≤ 1 := by
  cases h with
  | zero => exact hi
  | succ h hc hd => rcases hd with rfl | rfl | rfl <;> exact ⟨_, rfl, by simp⟩
/-- a statement at its edge -/
def EdgeOk (st : PyData) (good : Bool) : Prop := Sm st ∧ ∀ kind cb, okKind kind → cntStmt kind cb st = if good = true then some 1 else none
theorem edge_of {z : Str} {ps : List PyData} {good : Bool} (hz : z = "wait" ∨ z = "set" ∨ z = "add") (hs : ps.length ≤ 20 ∧ ∀ x, x ∈ ps → Sm x) (h : chk z ps = good) : EdgeOk (.tuple (.str z :: ps)) good := by
  refine ⟨.tuple (by rw [List.length_cons]; omega) fun x hx => ?_, fun kind cb hk => ?_⟩
  · rcases List.mem_cons.mp hx with rfl | hx
    · exact .str _
    · exact hs.2 x hx
  · have hc := words_both hk hz
    rw [cntStmt_one (words_noblk hc), hc, h, Bool.true_and]
theorem k02_edge {kind : Str} (hk : okKind kind) {st body : PyData} {good : Bool} (he : EdgeOk st good) {n : Nat} (hn : n ≤ 3) (h : Nst n (.tuple [st]) body) : isProg (.tuple [.str kind, body]) = good := by
  rw [isProg_eq hk, nst_cnt h 4, if_pos (by omega)]
  obtain ⟨f, hf⟩ : ∃ f, 4 - n = f + 1 := ⟨3 - n, by omega⟩
  rw [hf, cntBody_S, List.map_cons, List.map_nil, sumO_one, he.2 kind _ hk]
  cases good with
  | false => rfl
  | true =>
    show decide ((n : Int) + 1 ≤ 24) = true
    exact decide_eq_true (by omega)

end Nt

namespace Nt
open PySem PySem.Spec PyProof.Rows L2 Evl
def nestA : List PyData → Prop := fun ds => ∃ (n : Nat) (i : PyData), ds = [.int (n : Int), i] ∧ n ≤ 10 ∧ Sm i
def nestG : List PyData → PyData → Prop := fun ds d => ∃ (n : Nat) (i : PyData), ds = [.int (n : Int), i] ∧ Nst n i d
def edgeG : List PyData → PyData → Prop := fun _ d => ∃ st good, d = .tuple [st, .bool good] ∧ EdgeOk st good
theorem em_is {W : Wd} {K : PySem.W.Frag} {σ : L2.St} {H : Hp} {i : Nat} {v : V} {d : PyData} (h : σ[i]? = some (some v)) (hd : Dp K (W.wo H) v d) : Em W K (tVar i) σ H (fun x => x = d) := em_var h hd rfl
section
variable {P : Program} {w : World} {K : PySem.W.Frag} {mg : Str → Option Value} {base : Heap}
theorem ok__law_nested (T : Txt w K mg) : Def P w K mg base CX0 4 "_law_nested" ["_law_bag_here", "_law_deep", "_law_inner"] (spB K nestA nestG) := by
  have D__law_draw := ok__law_draw (P := P) (base := base) T
  have D__law_condition := ok__law_condition (P := P) (base := base) T
  refine mkDef T.F__law_nested T.g__law_nested sc__law_nested (fun _ _ _ _ _ _ us hl => match us, hl with | [_, _, _], _ => rfl) (fun vs H Q E h => ?_) (fun cdv A outer s H vs Q E hr h => ?_)
  · obtain ⟨W, b, xs, ds, _, _, rfl, hd, ⟨n, i, rfl, _⟩, _⟩ := h
    have := dpAll_len hd
    show xs.length + 1 = 3
    rw [this]; rfl
  · obtain ⟨W, b, xs, ds, hB, j, rfl, hd, ⟨n, i, rfl, hn, hi⟩, k⟩ := h
    obtain ⟨x, y, rfl⟩ := len2 (dpAll_len hd)
    obtain ⟨_, _, e, hx, hy⟩ := dp2 hd
    cases e
    cases dpI hx
    refine ⟨_, (PSs.nox (pss_cons (ps_set (i := 3) sc__law_nested.nd rfl (Or.inl rfl) (pv 2))
      (pss_cons (ps_for PassesOwn.never rfl (pi_range1 (by rfl) T.m_range (pa_cons (pv 1) pa_nil)) (pg_name (i := 4) sc__law_nested.nd rfl (Or.inl rfl)) (pss_cons (ps_set (i := 5) sc__law_nested.nd rfl (Or.inl rfl) (pe_callD D__law_condition (hr.mono (by omega)) rfl pass0 (pa_cons (pv 0) pa_nil)))
      (pss_cons (ps_set (i := 6) sc__law_nested.nd rfl (Or.inl rfl) (pe_callD D__law_draw (hr.mono (by omega)) rfl pass0 (pa_cons (pv 0) (pa_cons pe_int pa_nil))))
      (pss_one (ps_set (i := 3) sc__law_nested.nd rfl (Or.inl rfl) (pe_tup (pa_cons (pe_ix ix_list (pe_lst (pa_cons (pe_tup (pa_cons pe_str (pa_cons (pv 5) (pa_cons (pv 3) pa_nil)))) (pa_cons (pe_tup (pa_cons pe_str (pa_cons (pv 5) (pa_cons (pv 3) (pa_cons (pe_tup pa_nil) pa_nil))))) (pa_cons (pe_tup (pa_cons pe_str (pa_cons (pv 5) (pa_cons (pe_tup pa_nil) (pa_cons (pv 3) pa_nil))))) pa_nil)))) (pv 6) (fun _ _ => rfl)) pa_nil)))))))
      (pss_one (ps_ret (pv 3)))))), ?_⟩
    refine m_asg (K := K) j (em_is rfl hy) ?_
    intro v d H1 e1 hd1 hdi
    rw [hdi] at hd1
    refine m_forR (K := K) (Pn := fun m => m = (n : Int)) e1.j (ema_cons (P1 := fun d => d = .int n) (em_var rfl (.int n) rfl) fun d hd => ema_nil ⟨n, by rw [hd], rfl⟩) (fun m hm => by omega)
      (fun _ t σ' H' => ∃ (u : V) (body : PyData) (o4 o5 o6 : Option V), σ' = [some (.ref b), some (.int n), some y, some u, o4, o5, o6] ∧ W.Le H H' ∧ Dp K (W.wo H') u body ∧ Nst t i body)
      (fun m H2 hm e2 => ⟨v, i, none, none, none, rfl, e1.trans e2, e2.dp hd1, .zero i⟩) ?_ ?_
    · rintro m t σ' H' rfl ht ⟨u, body, o4, o5, o6, rfl, le, hu, hb⟩
      refine m_asg (K := K) le.j (em_no (G := condG) rfl hB) ?_
      rintro vc c H3 e3 hc3 hc
      refine m_asg (K := K) e3.j (em_drawN rfl hB) ?_
      rintro vr dr H4 e4 hr4 ⟨r, rfl, hr0, hr3⟩
      cases dpI hr4
      have hu4 := (e3.trans e4).dp hu
      have hc4 := e4.dp hc3
      have ec : ∀ {H5 : Hp}, W.Le H4 H5 → Em W K (tVar 5) [some (.ref b), some (.int n), some y, some u, some (.int t), some vc, some (.int r)] H5 (fun x => x = c) := fun e5 => em_is rfl (e5.dp hc4)
      have eb : ∀ {H5 : Hp}, W.Le H4 H5 → Em W K (tVar 3) [some (.ref b), some (.int n), some y, some u, some (.int t), some vc, some (.int r)] H5 (fun x => x = body) := fun e5 => em_is rfl (e5.dp hu4)
      have e0 : ∀ {H5 : Hp}, Em W K (tTup tNil) [some (.ref b), some (.int n), some y, some u, some (.int t), some vc, some (.int r)] H5 (fun x => x = .tuple []) := fun {H5} => em_tup (ema_nil ⟨ok20, rfl⟩)
      have r4 := Wd.Le.refl e4.j
      refine m_set (K := K) (P := fun d => Nst (t + 1) i d) e4.j ?_ fun v5 d5 H5 e5 hd5 p5 => ⟨v5, d5, _, _, _, rfl, le.trans (e3.trans (e4.trans e5)), hd5, p5⟩
      · refine em_tup (ema_cons (P1 := fun d => d = .tuple [.str "while", c, body] ∨ d = .tuple [.str "if", c, body, .tuple []] ∨ d = .tuple [.str "if", c, .tuple [], body]) (em_ixL (P1 := fun ds => ds = [.tuple [.str "while", c, body], .tuple [.str "if", c, body, .tuple []], .tuple [.str "if", c, .tuple [], body]]) (P2 := fun i => 0 ≤ i ∧ i < 3) (em_lst (ema_cons (P1 := fun d => d = .tuple [.str "while", c, body]) ?_ fun d0 h0 => ema_cons (P1 := fun d => d = .tuple [.str "if", c, body, .tuple []]) ?_ fun d1 h1 => ema_cons (P1 := fun d => d = .tuple [.str "if", c, .tuple [], body]) ?_ fun d2 h2 => ema_nil ⟨ok20, _, rfl, by rw [h0, h1, h2]⟩)) (em_var rfl (.int r) ⟨r, rfl, hr0, hr3⟩) ?_) fun d hd => ema_nil ⟨ok20, .succ hb hc ?_⟩)
        · exact em_tup (ema_cons (P1 := fun d => d = .str "while") (em_str rfl) fun d0 h0 => ema_cons (ec r4) fun d1 h1 => ema_cons (eb r4) fun d2 h2 => ema_nil ⟨ok20, by rw [h0, h1, h2]⟩)
        · exact em_tup (ema_cons (P1 := fun d => d = .str "if") (em_str rfl) fun d0 h0 => ema_cons (ec r4) fun d1 h1 => ema_cons (eb r4) fun d2 h2 => ema_cons e0 fun d3 h3 => ema_nil ⟨ok20, by rw [h0, h1, h2, h3]⟩)
        · exact em_tup (ema_cons (P1 := fun d => d = .str "if") (em_str rfl) fun d0 h0 => ema_cons (ec r4) fun d1 h1 => ema_cons e0 fun d2 h2 => ema_cons (eb r4) fun d3 h3 => ema_nil ⟨ok20, by rw [h0, h1, h2, h3]⟩)
        · rintro ds i' rfl hi'
          exact at_three (P := fun d => d = .tuple [.str "while", c, body] ∨ d = .tuple [.str "if", c, body, .tuple []] ∨ d = .tuple [.str "if", c, .tuple [], body]) hi' (.inl rfl) (.inr (.inl rfl)) (.inr (.inr rfl))
        · rcases hd with rfl | rfl | rfl
          · exact .inl rfl
          · exact .inr (.inl rfl)
          · exact .inr (.inr rfl)
    · rintro m σ' H' rfl ⟨u, body, o4, o5, o6, rfl, le, hu, hb⟩
      refine m_ret (K := K) le.j (em_is rfl hu) ?_
      rintro v d H2 e2 hd2 rfl
      refine k v _ H2 (le.trans e2) hd2 ⟨n, i, rfl, ?_⟩
      have : ((n : Int)).toNat = n := by omega
      rw [this] at hb
      exact hb
theorem ok__law_edge (T : Txt w K mg) : Def P w K mg base CX0 2 "_law_edge" ["_law_bag_here"] (spB K noA edgeG) := by
  have D__law_draw := ok__law_draw (P := P) (base := base) T
  refine mkDef T.F__law_edge T.g__law_edge sc__law_edge (fun _ _ _ _ _ _ us hl => match us, hl with | [_], _ => rfl) (fun vs H Q E h => ?_) (fun cdv A outer s H vs Q E hr h => ?_)
  · obtain ⟨W, b, xs, ds, _, _, rfl, hd, hA, _⟩ := h
    cases len_noA (W := W) hd hA; rfl
  · obtain ⟨W, b, xs, ds, hB, j, rfl, hd, hA, k⟩ := h
    cases len_noA (W := W) hd hA
    cases hA
    refine ⟨_, (PSs.nox (pss_cons (ps_set (i := 1) sc__law_edge.nd rfl (Or.inl rfl) (pe_callD D__law_draw (hr.mono (by omega)) rfl pass0 (pa_cons (pv 0) (pa_cons pe_int pa_nil))))
      (pss_cons (ps_set (i := 2) sc__law_edge.nd rfl (Or.inl rfl) (pe_callD D__law_draw (hr.mono (by omega)) rfl pass0 (pa_cons (pv 0) (pa_cons pe_int pa_nil))))
      (pss_cons (ps_if (pt_cmpR op_eq (pv 1) pe_int (nomark _)) (pss_one (ps_ret (pe_ix ix_list (pe_lst (pa_cons (pe_tup (pa_cons (pe_tup (pa_cons pe_str (pa_cons (pe_op op_add (pe_op op_sub (pe_op op_pow pe_int pe_int) pe_int) (pv 2)) pa_nil))) (pa_cons (pe_cmpR op_lt (pv 2) pe_int (nomark _)) pa_nil))) (pa_cons (pe_tup (pa_cons (pe_tup (pa_cons pe_str (pa_cons (pv 2) pa_nil))) (pa_cons (pe_cmpR op_gt (pv 2) pe_int (nomark _)) pa_nil))) pa_nil))) (pe_callD D__law_draw (hr.mono (by omega)) rfl pass0 (pa_cons (pv 0) (pa_cons pe_int pa_nil))) (fun _ _ => rfl)))) pss_nil)
      (pss_cons (ps_if (pt_cmpR op_eq (pv 1) pe_int (nomark _)) (pss_one (ps_ret (pe_tup (pa_cons (pe_tup (pa_cons pe_str (pa_cons (pe_ix ix_str pe_str (pe_callD D__law_draw (hr.mono (by omega)) rfl pass0 (pa_cons (pv 0) (pa_cons pe_int pa_nil))) (fun _ _ => rfl)) (pa_cons (pe_op op_add pe_int (pv 2)) pa_nil)))) (pa_cons (pe_cmpR op_lt (pv 2) pe_int (nomark _)) pa_nil))))) pss_nil)
      (pss_one (ps_ret (pe_tup (pa_cons (pe_tup (pa_cons pe_str (pa_cons (pe_ix ix_str pe_str (pe_callD D__law_draw (hr.mono (by omega)) rfl pass0 (pa_cons (pv 0) (pa_cons pe_int pa_nil))) (fun _ _ => rfl)) (pa_cons (pe_op op_add pe_int (pv 2)) pa_nil)))) (pa_cons (pe_cmpR op_lt (pv 2) pe_int (nomark _)) pa_nil)))))))))), ?_⟩
    refine m_asg (K := K) j (em_drawN rfl hB) ?_
    rintro v d H1 e1 hd1 ⟨r, rfl, hr0, hr3⟩
    cases dpI hd1
    refine m_asg (K := K) e1.j (em_drawN rfl hB) ?_
    rintro v d H2 e2 hd2 ⟨f, rfl, hf0, hf3⟩
    cases dpI hd2
    have er {H3 : Hp} : Em W K (tVar 1) [some (.ref b), some (.int r), some (.int f)] H3 (IsI fun i => i = r) := em_var rfl (.int r) ⟨r, rfl, rfl⟩
    have ef {H3 : Hp} : Em W K (tVar 2) [some (.ref b), some (.int r), some (.int f)] H3 (IsI fun i => i = f) := em_var rfl (.int f) ⟨f, rfl, rfl⟩
    have eqt {n : Int} {H3 : Hp} : EmT W (tTest (tOp rEq (tVar 1) (tC (.int n)))) [some (.ref b), some (.int r), some (.int f)] H3 (fun c => c = decide (r = n)) :=
      emt_test (em_eqI (K := K) (P2 := fun i => i = n) er (em_int ⟨_, rfl, rfl⟩) fun i j hi hj => by rw [hi, hj])
    have fin : ∀ {te : TE} {H3 : Hp} {D : Ends}, D.rt = Q → W.Le H2 H3 → Em W K te [some (.ref b), some (.int r), some (.int f)] H3 (edgeG []) → tRet te D [some (.ref b), some (.int r), some (.int f)] H3 := fun {te H3 D} hD e3 h => m_ret e3.j h fun v d H4 e4 hd p => by
      rw [hD]
      exact k v d H4 (e1.trans (e2.trans (e3.trans e4))) hd p
    have elt {g : Int → Int → Bool} {n : Int} {H3 : Hp} : Em W K (tOp (rI0 fun i j => .bl (g i j)) (tVar 2) (tC (.int n))) [some (.ref b), some (.int r), some (.int f)] H3 (fun d => d = .bool (g f n)) :=
      Em.imp (em_cmpI (K := K) (P2 := fun i => i = n) (P := fun c => c = g f n) ef (em_int ⟨_, rfl, rfl⟩) fun i j hi hj => by rw [hi, hj]) fun d ⟨c, e, h⟩ => by rw [e, h]
    have eadd {n : Int} {H3 : Hp} : Em W K (tOp (rI0 fun i j => .int (i + j)) (tC (.int n)) (tVar 2)) [some (.ref b), some (.int r), some (.int f)] H3 (fun d => d = .int (n + f)) :=
      Em.imp (em_opI0 (K := K) (P1 := fun i => i = n) (P := fun c => c = n + f) (em_int ⟨_, rfl, rfl⟩) ef fun i j hi hj => by rw [hi, hj]) fun d ⟨c, e, h⟩ => by rw [e, h]
    have wait_ok : ∀ i : Int, chk "wait" [.int i] = (decide (1 ≤ i) && decide (i ≤ 1000000000000000000000000000000)) := fun i => rfl
    have set_ok : ∀ (s : Str) (i : Int), vars.contains s = true → chk "set" [.str s, .int i] = (decide (0 ≤ i) && decide (i < 16)) := fun s i hs => by
      show (vars.contains s && (decide (0 ≤ i) && decide (i < 16))) = _
      rw [hs]; rfl
    have add_ok : ∀ (s : Str) (i : Int), vars.contains s = true → chk "add" [.str s, .int i] = (decide (0 ≤ i) && decide (i < 16)) := fun s i hs => by
      show (vars.contains s && ((decide (0 ≤ i) && decide (i < 16)) || false)) = _
      rw [hs, Bool.or_false]; rfl
    refine m_when e2.j eqt (fun _ H3 e3 => fin rfl e3 ?_) fun hn0 H3 e3 => ?_
    · refine em_ixL (P1 := fun ds => ds = [.tuple [.tuple [.str "wait", .int (1000000000000000000000000000000 - 1 + f)], .bool (decide (f < 2))], .tuple [.tuple [.str "wait", .int f], .bool (decide (0 < f))]]) (em_lst (ema_cons (P1 := fun d => d = .tuple [.tuple [.str "wait", .int (1000000000000000000000000000000 - 1 + f)], .bool (decide (f < 2))]) ?_ fun d0 h0 => ema_cons (P1 := fun d => d = .tuple [.tuple [.str "wait", .int f], .bool (decide (0 < f))]) ?_ fun d1 h1 => ema_nil ⟨ok20, _, rfl, by rw [h0, h1]⟩)) (em_drawN rfl hB) ?_
      · refine em_tup (ema_cons (P1 := fun d => d = .tuple [.str "wait", .int (1000000000000000000000000000000 - 1 + f)]) (em_tup (ema_cons (P1 := fun d => d = .str "wait") (em_str rfl) fun d0 h0 => ema_cons (P1 := fun d => d = .int (1000000000000000000000000000000 - 1 + f)) ?_ fun d1 h1 => ema_nil ⟨ok20, by rw [h0, h1]⟩)) fun d0 h0 => ema_cons elt fun d1 h1 => ema_nil ⟨ok20, by rw [h0, h1]⟩)
        exact Em.imp (em_opI0 (K := K) (P1 := fun i => i = 1000000000000000000000000000000 - 1) (P := fun c => c = 1000000000000000000000000000000 - 1 + f) (em_opI0 (P1 := fun i => i = 1000000000000000000000000000000) (P2 := fun i => i = 1) (em_pow ⟨by decide, by decide, by decide⟩ (by decide)) (em_int ⟨_, rfl, rfl⟩) fun i j hi hj => by rw [hi, hj]) ef fun i j hi hj => by rw [hi, hj]) fun d ⟨c, e, h⟩ => by rw [e, h]
      · exact em_tup (ema_cons (P1 := fun d => d = .tuple [.str "wait", .int f]) (em_tup (ema_cons (P1 := fun d => d = .str "wait") (em_str rfl) fun d0 h0 => ema_cons (P1 := fun d => d = .int f) (em_var rfl (.int f) rfl) fun d1 h1 => ema_nil ⟨ok20, by rw [h0, h1]⟩)) fun d0 h0 => ema_cons elt fun d1 h1 => ema_nil ⟨ok20, by rw [h0, h1]⟩)
      · rintro ds i rfl hi
        refine at_two (P := edgeG []) hi ⟨_, _, rfl, edge_of (.inl rfl) ⟨by simp, all1 (.int _)⟩ ?_⟩ ⟨_, _, rfl, edge_of (.inl rfl) ⟨by simp, all1 (.int _)⟩ ?_⟩
        · rw [wait_ok, decide_eq_true (show (1 : Int) ≤ 1000000000000000000000000000000 - 1 + f by omega), Bool.true_and]
          exact decide_eq_decide.mpr ⟨fun h => by omega, fun h => by omega⟩
        · rw [wait_ok, decide_eq_true (show f ≤ (1000000000000000000000000000000 : Int) by omega), Bool.and_true]
          exact decide_eq_decide.mpr ⟨fun h => by omega, fun h => by omega⟩
    refine m_when e3.j eqt (fun _ H4 e4 => fin rfl (e3.trans e4) ?_) fun hn0 H4 e4 => fin rfl (e3.trans e4) ?_
    · refine em_tup (ema_cons (P1 := fun d => ∃ s, d = .tuple [.str "set", .str s, .int (14 + f)] ∧ vars.contains s = true) (em_tup (ema_cons (P1 := fun d => d = .str "set") (em_str rfl) fun d0 h0 => ema_cons (em_ab (em_drawN rfl hB)) fun d1 h1 => ema_cons eadd fun d2 h2 => ema_nil ⟨ok20, ?_⟩)) fun d0 h0 => ema_cons elt fun d1 h1 => ema_nil ⟨ok20, ?_⟩)
      · obtain ⟨s, rfl, hs⟩ := h1
        exact ⟨s, by rw [h0, h2], hs⟩
      · obtain ⟨s, rfl, hs⟩ := h0
        subst h1
        refine ⟨_, _, rfl, edge_of (.inr (.inl rfl)) ⟨by simp, all2 (.str _) (.int _)⟩ ?_⟩
        rw [set_ok s _ hs, decide_eq_true (show (0 : Int) ≤ 14 + f by omega), Bool.true_and]
        exact decide_eq_decide.mpr ⟨fun h => by omega, fun h => by omega⟩
    · refine em_tup (ema_cons (P1 := fun d => ∃ s, d = .tuple [.str "add", .str s, .int (14 + f)] ∧ vars.contains s = true) (em_tup (ema_cons (P1 := fun d => d = .str "add") (em_str rfl) fun d0 h0 => ema_cons (em_ab (em_drawN rfl hB)) fun d1 h1 => ema_cons eadd fun d2 h2 => ema_nil ⟨ok20, ?_⟩)) fun d0 h0 => ema_cons elt fun d1 h1 => ema_nil ⟨ok20, ?_⟩)
      · obtain ⟨s, rfl, hs⟩ := h1
        exact ⟨s, by rw [h0, h2], hs⟩
      · obtain ⟨s, rfl, hs⟩ := h0
        subst h1
        refine ⟨_, _, rfl, edge_of (.inr (.inr rfl)) ⟨by simp, all2 (.str _) (.int _)⟩ ?_⟩
        rw [add_ok s _ hs, decide_eq_true (show (0 : Int) ≤ 14 + f by omega), Bool.true_and]
        exact decide_eq_decide.mpr ⟨fun h => by omega, fun h => by omega⟩
end

end Nt

namespace Nt
open PySem PySem.Spec PyProof.Rows L2 Evl
def spLaw (K : PySem.W.Frag) : Sp := fun vs H Q _ => ∃ (a : Addr) (ns : List Int), vs = [.ref a] ∧ SqL K H a (ns.map V.int) ∧ ns.length ≤ 63 ∧ ∀ H', Q (.bl true) H'
theorem rc_max {H : Hp} {i j : Int} : RC (fun xs H Q => ∃ i j, xs = [V.int i, V.int j] ∧ Q (.int (if j > i then j else i)) H) [.int i, .int j] H (.int (if j > i then j else i)) := fun H1 _ _ q => ⟨i, j, rfl, q H1 (Ex.refl H1)⟩
theorem rc_min {H : Hp} {i j : Int} : RC (fun xs H Q => ∃ i j, xs = [V.int i, V.int j] ∧ Q (.int (if j < i then j else i)) H) [.int i, .int j] H (.int (if j < i then j else i)) := fun H1 _ _ q => ⟨i, j, rfl, q H1 (Ex.refl H1)⟩
/-- a new bag keeps what stood -/
theorem bag_same {b : Addr} {H H' : Hp} (hb : H b = none) (e : Same H H') : Same H ((bagW b).wo H') := fun a o h => by
  have hn : a ≠ b := ne_of_none h hb
  unfold Wd.wo bagW
  dsimp only
  rw [if_neg]
  · exact e a o h
  · intro q; exact hn (eq_of_beq q)
/-- a pure def's call on data -/
theorem em_pure1 {W : Wd} {K : PySem.W.Frag} {σ : L2.St} {H : Hp} {te : TE} {E : XK} {sp : Sp} {P1 : PyData → Prop} {P : PyData → Prop} (h : Em W K te σ H P1) (hs : ∀ v d H1, W.Le H H1 → Dp K (W.wo H1) v d → P1 d → ∃ z dz, SpV sp [v] H1 z ∧ (∀ H2, Dp K H2 z dz) ∧ P dz) : Em W K (tCall sp [] E (tCons te tNil)) σ H P := fun H1 e Q q =>
  h H1 e _ fun v d H2 e2 hd p => by
    obtain ⟨z, dz, h1, h2, h3⟩ := hs v d H2 (e.trans e2) hd p
    exact h1 H2 (Ex.refl _) _ (fun H3 e3 => q z dz H3 (e2.trans (.of_same e2.j e3)) (h2 _) h3) E
theorem em_prog {W : Wd} {K : PySem.W.Frag} {σ : L2.St} {H : Hp} {te : TE} {E : XK} {P1 : PyData → Prop} {P : Bool → Prop} (h : Em W K te σ H P1) (hp : ∀ d, P1 d → Sm d ∧ P (isProg d)) : Em W K (tCall (spProg K) [] E (tCons te tNil)) σ H (IsB P) :=
  em_pure1 h fun v d H1 e hd p => ⟨.bl (isProg d), .bool (isProg d), spvProg (Wd.dp hd) (hp d p).1, fun H2 => .bl _, _, rfl, (hp d p).2⟩
theorem em_isi {W : Wd} {K : PySem.W.Frag} {σ : L2.St} {H : Hp} {te : TE} {n : String} {P1 : PyData → Prop} {P : Bool → Prop} (h : Em W K te σ H P1) (hp : ∀ d, P1 d → ∃ b, kitB (tyN d) n = some b ∧ P b) : Em W K (tCB (rIsi K) (tCons te (tCons (tC (.ty n)) tNil))) σ H (IsB P) := fun H1 e Q q => h H1 e _ fun v d H2 e2 hd p => by
  obtain ⟨b, hb, pb⟩ := hp d p
  exact isi_d (Wd.dp hd) hb H2 (Ex.refl _) Q fun H3 e3 => q _ _ H3 (e2.trans (.of_same e2.j e3)) (.bl b) ⟨b, rfl, pb⟩
theorem cut_pre (ds : List PyData) (n : Nat) : cutD ds none (some (n : Int)) = ds.take n := by
  unfold cutD
  rw [HT.sIx_nat, HT.sIx_none, List.drop_zero, Nat.sub_zero]
  by_cases h : n ≤ ds.length
  · rw [Nat.min_eq_left h]
  · rw [Nat.min_eq_right (by omega), List.take_length, List.take_of_length_le (by omega)]
theorem cut_suf (ds : List PyData) (n : Nat) : cutD ds (some (n : Int)) none = ds.drop n := by
  unfold cutD
  rw [HT.sIx_nat, HT.sIx_none]
  by_cases h : n ≤ ds.length
  · rw [Nat.min_eq_left h, List.take_of_length_le]
    rw [List.length_drop]
    exact Nat.le_refl _
  · rw [Nat.min_eq_right (by omega), Nat.sub_self, List.take_zero, List.drop_of_length_le (by omega)]
section
variable {P : Program} {w : World} {K : PySem.W.Frag} {mg : Str → Option Value} {base : Heap}
theorem ok_law {f : Addr} {fd : FuncData} (T : Txt w K mg) (F : FunD K "law" "law" (defArgs s_law) (defBody s_law) (defScope s_law) [] [] f fd) : FnOk P w K mg base CX0 18 f fd ["_law_script"] (spLaw K) := by
  have D__law_draw := ok__law_draw (P := P) (base := base) T
  have D__law_bag := ok__law_bag (P := P) (base := base) T
  have D__law_kind := ok__law_kind (P := P) (base := base) T
  have D__law_simple := ok__law_simple (P := P) (base := base) T
  have D__law_nested := ok__law_nested (P := P) (base := base) T
  have D__law_edge := ok__law_edge (P := P) (base := base) T
  have D_is_program := ok_is_program (P := P) (base := base) T
  refine F.ok sc_law (fun vs H Q E h => ?_) (fun cdv A outer s H vs Q E hr h => ?_)
  · obtain ⟨a, ns, rfl, _⟩ := h; rfl
  · obtain ⟨a, ns, rfl, hx, hns, kk⟩ := h
    refine ⟨_, (PSs.nox (pss_cons (ps_for PassesOwn.never rfl (pi_range1 (by rfl) T.m_range (pa_cons (pe_callB (call_max2 rfl) (by rfl) T.m_max boot_max (pa_cons pe_int (pa_cons (pe_callB (call_min2 rfl) (by rfl) T.m_min boot_min (pa_cons pe_int (pa_cons (pe_callB call_len_seq (by rfl) T.m_len boot_len (pa_cons (pv 0) pa_nil)) pa_nil))) pa_nil))) pa_nil)) (pg_name (i := 1) sc_law.nd rfl (Or.inl rfl)) (pss_cons (ps_set (i := 2) sc_law.nd rfl (Or.inr rfl) (pe_callD D__law_bag (hr.mono (by omega)) rfl pass0 (pa_cons (pv 0) (pa_cons (pv 1) pa_nil))))
      (pss_cons (ps_set (i := 3) sc_law.nd rfl (Or.inr rfl) (pe_callD D__law_kind (hr.mono (by omega)) rfl pass0 (pa_cons (pv 2) pa_nil)))
      (pss_cons (ps_set (i := 4) sc_law.nd rfl (Or.inl rfl) (pe_op op_add pe_int (pe_callD D__law_draw (hr.mono (by omega)) rfl pass0 (pa_cons (pv 2) (pa_cons pe_int pa_nil)))))
      (pss_cons (ps_set (i := 5) sc_law.nd rfl (Or.inl rfl) (pe_ix ix_list (pe_lst (pa_cons (pe_tup pa_nil) (pa_cons (pe_tup (pa_cons (pe_callD D__law_simple (hr.mono (by omega)) rfl pass0 (pa_cons (pv 2) (pa_cons (pv 3) pa_nil))) pa_nil)) pa_nil))) (pe_callD D__law_draw (hr.mono (by omega)) rfl pass0 (pa_cons (pv 2) (pa_cons pe_int pa_nil))) (fun _ _ => rfl)))
      (pss_cons (ps_set (i := 6) sc_law.nd rfl (Or.inl rfl) (pe_callD D__law_nested (hr.mono (by omega)) rfl pass0 (pa_cons (pv 2) (pa_cons (pv 4) (pa_cons (pv 5) pa_nil)))))
      (pss_cons (ps_set (i := 7) sc_law.nd rfl (Or.inl rfl) (pe_op op_add pe_int (pe_callD D__law_draw (hr.mono (by omega)) rfl pass0 (pa_cons (pv 2) (pa_cons pe_int pa_nil)))))
      (pss_cons (ps_set (i := 8) sc_law.nd rfl (Or.inl rfl) (pe_callD D__law_draw (hr.mono (by omega)) rfl pass0 (pa_cons (pv 2) (pa_cons (pv 7) pa_nil))))
      (pss_cons (ps_setLc (i := 9) (own := [("_law_turn", 15)]) (by rfl) sc_law.nd rfl rfl (sw_true rfl rfl rfl (by decide +kernel)) (pi_range1 (by rfl) T.m_range (pa_cons (pe_op op_sub (pe_op op_sub (pv 7) (pv 4)) (pe_callB call_len_seq (by rfl) T.m_len boot_len (pa_cons (pv 5) pa_nil))) pa_nil)) (blkOk_by (own := [("_law_turn", 15)]) (N := N_law) (sc := defScope s_law) (by decide +kernel)) (fun _ _ _ _ _ => (pg_name (i := 15) sc_law.nd rfl (Or.inl rfl))) (fun _ _ _ _ _ => pts_nil) (fun _ _ _ _ _ => (pe_callD D__law_simple (hr.mono (by omega)) rfl pass0 (pa_cons (pv 2) (pa_cons (pv 3) pa_nil)))))
      (pss_cons (ps_set (i := 10) sc_law.nd rfl (Or.inl rfl) (pe_tup (pa_cons (pv 3) (pa_cons (pe_op op_catA (pe_op op_catA (pe_callTy call_tuple_of (by rfl) T.m_tuple boot_tuple (pa_cons (pe_slice sl_list (pv 9) po_none (po_some (pv 8))) pa_nil)) (pv 6)) (pe_callTy call_tuple_of (by rfl) T.m_tuple boot_tuple (pa_cons (pe_slice sl_list (pv 9) (po_some (pv 8)) po_none) pa_nil))) pa_nil))))
      (pss_cons (ps_set (i := 11) sc_law.nd rfl (Or.inl rfl) (pe_and (pe_cmpR op_le (pv 7) pe_int (nomark _)) (pe_one (pe_cmpR op_le (pe_op op_add (pv 4) (pe_callB call_len_seq (by rfl) T.m_len boot_len (pa_cons (pv 5) pa_nil))) pe_int (nomark _)))))
      (pss_cons (ps_set (i := 12) sc_law.nd rfl (Or.inl rfl) (pe_callD D_is_program (hr.mono (by omega)) rfl pass0 (pa_cons (pv 10) pa_nil)))
      (pss_cons (ps_if (PW.pt (pw_or (pt_not (pt_val (pe_callB call_isi (by rfl) T.m_isinstance boot_isinstance (pa_cons (pv 12) (pa_cons (pe_bltn (v := .ty "bool") rfl T.m_bool boot_bool rfl) pa_nil))))) (pw_or1 (pt_cmpR op_ne (pv 12) (pv 11) (nomark _))))) (pss_one (ps_ret pe_bl)) pss_nil)
      (pss_cons (ps_asg (pe_callD D__law_edge (hr.mono (by omega)) rfl pass0 (pa_cons (pv 2) pa_nil)) (pg_tup (n := 2) rfl (pgs_cons (pg_name (i := 13) sc_law.nd rfl (Or.inl rfl)) (pgs_cons (pg_name (i := 14) sc_law.nd rfl (Or.inl rfl)) pgs_nil))))
      (pss_one (ps_if (pt_cmpR op_ne (pe_callD D_is_program (hr.mono (by omega)) rfl pass0 (pa_cons (pe_tup (pa_cons (pv 3) (pa_cons (pe_callD D__law_nested (hr.mono (by omega)) rfl pass0 (pa_cons (pv 2) (pa_cons (pe_callD D__law_draw (hr.mono (by omega)) rfl pass0 (pa_cons (pv 2) (pa_cons pe_int pa_nil))) (pa_cons (pe_tup (pa_cons (pv 13) pa_nil)) pa_nil)))) pa_nil))) pa_nil)) (pv 14) (nomark _)) (pss_one (ps_ret pe_bl)) pss_nil))))))))))))))))
      (pss_one (ps_ret (pe_cmpR (op_eqD hr.units) (pe_lst (pa_cons (pe_gint rfl T.c_LONGEST_WAIT) (pa_cons (pe_gint rfl T.c_MOST_DEPTH) (pa_cons (pe_gint rfl T.c_MOST_STATEMENTS) pa_nil)))) (pe_lst (pa_cons (pe_op op_pow pe_int pe_int) (pa_cons pe_int (pa_cons pe_int pa_nil)))) (nomark _)))))), ?_⟩
    generalize hN : (if (if ((ns.map V.int).length : Int) < 12 then ((ns.map V.int).length : Int) else 12) > 2 then (if ((ns.map V.int).length : Int) < 12 then ((ns.map V.int).length : Int) else 12) else 2) = N
    have hN2 : 0 ≤ N ∧ N ≤ 12 := by
      rw [← hN]
      split <;> split <;> omega
    refine q_forR1 (n := N) (ea_cons (ev_is (ev_cb (ea_cons ev_c (ea_cons (ev_cb (ea_cons ev_c (ea_cons (ev_cb (ea_cons (ev_var rfl) ea_nil) (rc_lenL hx)) ea_nil)) rc_min) ea_nil)) rc_max) (by rw [hN])) ea_nil) (by omega)
      (fun i σ' H' => ∃ o1 o2 o3 o4 o5 o6 o7 o8 o9 o10 o11 o12 o13 o14 : Option V, σ' = [some (.ref a), o1, o2, o3, o4, o5, o6, o7, o8, o9, o10, o11, o12, o13, o14, none] ∧ SqL K H' a (ns.map V.int))
      (fun H1 e => ⟨none, none, none, none, none, none, none, none, none, none, none, none, none, none, rfl, ex_l e hx⟩) ?_ ?_
    · rintro i σ' H1 hi ⟨o1, o2, o3, o4, o5, o6, o7, o8, o9, o10, o11, o12, o13, o14, rfl, hx1⟩
      -- bag
      refine ⟨_, rfl, _, rfl, a, ns, i, rfl, hx1, by omega, fun b H2 hb e2 hbag => ?_⟩
      have hB := bagW_has b
      have hsx : SqL K ((bagW b).wo H2) a (ns.map V.int) := ex_l (bag_same hb e2) hx1
      have j2 : (bagW b).J H2 := hbag
      show tSeq (tAsg (tCall (spB K noA kindG) [] E0 (tCons (tVar 2) tNil)) (gName 3)) _ _ [some (.ref a), some (.int i), some (.ref b), o3, o4, o5, o6, o7, o8, o9, o10, o11, o12, o13, o14, none] H2
      clear hbag
      generalize bagW b = W at hB hsx j2
      -- kind
      refine m_asg (K := K) j2 (em_no rfl hB) ?_
      rintro v d H3 e3 hd3 ⟨kind, rfl, hkd⟩
      cases dpS hd3
      -- deep
      refine m_asg (K := K) e3.j (em_opI0 (P1 := fun i => i = 1) (P := fun i => 1 ≤ i ∧ i ≤ 6) (em_int ⟨_, rfl, rfl⟩) (em_drawN rfl hB) fun i j hi hj => by subst hi; show 1 ≤ 1 + j ∧ 1 + j ≤ 6; omega) ?_
      rintro v d H4 e4 hd4 ⟨dp, rfl, hdp1, hdp6⟩
      cases dpI hd4
      obtain ⟨deep, rfl⟩ : ∃ n : Nat, dp = (n : Int) := ⟨dp.toNat, by omega⟩
      -- inner
      refine m_asg (K := K) (P := fun d => ∃ ls, d = .tuple ls ∧ (ls = [] ∨ ∃ s, ls = [s] ∧ okSimple kind s)) e4.j (em_ixL (P1 := fun ds => ∃ s, ds = [.tuple [], .tuple [s]] ∧ okSimple kind s) (em_lst (ema_cons (P1 := fun d => d = .tuple []) (em_tup (ema_nil ⟨ok20, rfl⟩)) fun d0 h0 => ema_cons (P1 := fun d => ∃ s, d = .tuple [s] ∧ okSimple kind s) (em_tup (ema_cons (P1 := okSimple kind) (Em.imp (em_help (A' := fun ds => ds = [.str kind]) rfl hB (ema_cons (P1 := fun d => d = .str kind) (em_var rfl (.str kind) rfl) fun d hd => ema_nil (by rw [hd])) ?_) ?_) fun d hd => ema_nil ⟨ok20, d, rfl, hd⟩)) fun d1 h1 => ema_nil ⟨ok20, _, rfl, ?_⟩)) (em_drawN rfl hB) ?_) ?_
      · rintro ds rfl; exact ⟨kind, rfl, hkd⟩
      · rintro d ⟨ds, rfl, k2, e, h⟩
        have : k2 = kind := by injection e with e; injection e with e; exact e.symm
        rw [← this]; exact h
      · obtain ⟨s, rfl, hs⟩ := h1
        exact ⟨s, by rw [h0], hs⟩
      · rintro ds i ⟨s, rfl, hs⟩ hi
        exact at_two (P := fun d => ∃ ls, d = .tuple ls ∧ (ls = [] ∨ ∃ s, ls = [s] ∧ okSimple kind s)) hi ⟨[], rfl, .inl rfl⟩ ⟨[s], rfl, .inr ⟨s, rfl, hs⟩⟩
      rintro vi inner H5 e5 hd5 ⟨ls, rfl, hls⟩
      have hlsl : ls.length ≤ 1 := by rcases hls with rfl | ⟨s, rfl, _⟩ <;> simp
      have hsi : Sm (.tuple ls) := by
        rcases hls with rfl | ⟨s, rfl, h⟩
        · exact .tuple ok20 fun x hx => by cases hx
        · exact .tuple ok20 (all1 h.sm)
      -- body
      refine m_asg (K := K) (P := fun d => Nst deep (.tuple ls) d) e5.j (Em.imp (em_help (A' := fun ds => ds = [.int deep, .tuple ls]) rfl hB (ema_cons (P1 := fun d => d = .int deep) (em_var rfl (.int deep) rfl) fun d hd => ema_cons (em_is rfl hd5) fun d' hd' => ema_nil (by rw [hd, hd'])) ?_) ?_) ?_
      · rintro ds rfl; exact ⟨deep, _, rfl, by omega, hsi⟩
      · rintro d ⟨ds, rfl, n, i, e, h⟩
        have h1 : (n : Int) = (deep : Int) := by injection e with e _; injection e with e; exact e.symm
        have h2 : i = .tuple ls := by injection e with _ e; injection e with e; exact e.symm
        have h3 : n = deep := by omega
        rw [← h3, ← h2]; exact h
      rintro vb body H6 e6 hd6 hnst
      obtain ⟨blk, rfl⟩ := nst_tup hnst (by omega)
      -- many
      refine m_asg (K := K) e6.j (em_opI0 (P1 := fun i => i = 20) (P := fun i => 20 ≤ i ∧ i ≤ 27) (em_int ⟨_, rfl, rfl⟩) (em_drawN rfl hB) fun i j hi hj => by subst hi; show 20 ≤ 20 + j ∧ 20 + j ≤ 27; omega) ?_
      rintro v d H7 e7 hd7 ⟨many, rfl, hm20, hm27⟩
      cases dpI hd7
      -- ahead
      refine m_asg (K := K) e7.j (em_draw (P := fun m => m = many) rfl hB (em_var rfl (.int many) ⟨many, rfl, by omega, by omega, rfl⟩)) ?_
      rintro v d H8 e8 hd8 ⟨ah, rfl, m2, hm2, hah0, hah1⟩
      rw [hm2] at hah1
      cases dpI hd8
      obtain ⟨ahead, rfl⟩ : ∃ n : Nat, ah = (n : Int) := ⟨ah.toNat, by omega⟩
      -- flat
      have hd58 := (e6.trans (e7.trans e8)).dp hd5
      have hd68 := (e7.trans e8).dp hd6
      refine m_asg (K := K) e8.j (em_lcR (K := K) (Pn := fun n => n = many - deep - ls.length) (Pe := okSimple kind) (ema_cons (P1 := fun d => d = .int (many - deep - ls.length)) ?_ fun d hd => ema_nil ⟨_, by rw [hd], rfl⟩) (fun n hn => by omega) (fun x => rfl) fun n i p acc H9 hn hi hp hs jj => ?_) ?_
      · exact Em.imp (em_opI0 (P1 := fun i => i = many - deep) (P2 := fun i => i = ls.length) (P := fun i => i = many - deep - ls.length) (em_opI0 (P1 := fun i => i = many) (P2 := fun i => i = deep) (em_var rfl (.int many) ⟨_, rfl, rfl⟩) (em_var rfl (.int deep) ⟨_, rfl, rfl⟩) fun i j hi hj => by rw [hi, hj]) (em_lenT (P1 := fun ds => ds = ls) (em_var rfl hd58 ⟨ls, rfl, rfl⟩) fun ds h => by rw [h]) fun i j hi hj => by rw [hi, hj]) fun d ⟨i, e, h⟩ => by rw [e, h]
      · refine Em.imp (em_help (A' := fun ds => ds = [.str kind]) rfl (hB.plus hp) (ema_cons (P1 := fun d => d = .str kind) (em_var rfl (.str kind) rfl) fun d hd => ema_nil (by rw [hd])) ?_) ?_
        · rintro ds rfl; exact ⟨kind, rfl, hkd⟩
        · rintro d ⟨ds, rfl, k2, e, h⟩
          have : k2 = kind := by injection e with e; injection e with e; exact e.symm
          rw [← this]; exact h
      rintro vf flat H9 e9 hd9 ⟨fs, rfl, n, rfl, hfl, hfs⟩
      have hd69 := e9.dp hd68
      have hd59 := e9.dp hd58
      -- whole
      have hfa : ∀ d, d ∈ fs.take ahead → okSimple kind d := fun d hd => hfs d (List.mem_of_mem_take hd)
      have hfb : ∀ d, d ∈ fs.drop ahead → okSimple kind d := fun d hd => hfs d (List.mem_of_mem_drop hd)
      have hlen : (fs.take ahead).length + (fs.drop ahead).length = fs.length := by rw [List.length_take, List.length_drop]; omega
      have hfl2 : (fs.length : Int) = many - deep - ls.length := by rw [hfl]; omega
      refine m_asg (K := K) (P := fun d => d = .tuple [.str kind, .tuple (fs.take ahead ++ [blk] ++ fs.drop ahead)]) e9.j (em_tup (ema_cons (P1 := fun d => d = .str kind) (em_var rfl (.str kind) rfl) fun d0 h0 => ema_cons (P1 := fun d => d = .tuple (fs.take ahead ++ [blk] ++ fs.drop ahead)) (em_catT (P1 := fun ds => ds = fs.take ahead ++ [blk]) (P2 := fun ds => ds = fs.drop ahead) (em_catT (P1 := fun ds => ds = fs.take ahead) (P2 := fun ds => ds = [blk]) (em_tupL (P1 := fun ds => ds = fs.take ahead) (em_slL (P1 := fun ds => ds = fs) (Pl := fun o => o = none) (Ph := fun o => o = some (ahead : Int)) (em_var rfl hd9 ⟨fs, rfl, rfl⟩) (emo_none rfl) (emo_some (K := K) (P1 := fun i => i = (ahead : Int)) (em_var rfl (.int ahead) ⟨_, rfl, rfl⟩) fun i hi => by rw [hi]) ?_) fun ds h => ⟨ds, rfl, h⟩) (em_var rfl hd69 ⟨_, rfl, rfl⟩) ?_) (em_tupL (P1 := fun ds => ds = fs.drop ahead) (em_slL (P1 := fun ds => ds = fs) (Pl := fun o => o = some (ahead : Int)) (Ph := fun o => o = none) (em_var rfl hd9 ⟨fs, rfl, rfl⟩) (emo_some (K := K) (P1 := fun i => i = (ahead : Int)) (em_var rfl (.int ahead) ⟨_, rfl, rfl⟩) fun i hi => by rw [hi]) (emo_none rfl) ?_) fun ds h => ⟨ds, rfl, h⟩) ?_) fun d1 h1 => ema_nil ⟨ok20, by rw [h0, h1]⟩)) ?_
      · rintro ds lo hi rfl rfl rfl; exact ⟨_, rfl, cut_pre _ _⟩
      · rintro ds es rfl rfl; exact ⟨by rw [List.length_singleton]; omega, _, rfl, rfl⟩
      · rintro ds lo hi rfl rfl rfl; exact ⟨_, rfl, cut_suf _ _⟩
      · rintro ds es rfl rfl; exact ⟨by rw [List.length_append, List.length_singleton]; omega, rfl⟩
      rintro vw whole H10 e10 hd10 rfl
      have hd5x := e10.dp hd59
      -- due
      refine m_asg (K := K) (P := IsB fun c => c = (decide (many ≤ 24) && decide ((deep : Int) + ls.length ≤ 4))) e10.j (em_andV (P1 := fun c => c = decide (many ≤ 24)) (em_cmpI (P1 := fun i => i = many) (P2 := fun i => i = 24) (em_var rfl (.int many) ⟨_, rfl, rfl⟩) (em_int ⟨_, rfl, rfl⟩) fun i j hi hj => by rw [hi, hj]) (fun h1 => em_cmpI (P1 := fun i => i = (deep : Int) + ls.length) (P2 := fun i => i = 4) (em_opI0 (P1 := fun i => i = (deep : Int)) (P2 := fun i => i = (ls.length : Int)) (em_var rfl (.int deep) ⟨_, rfl, rfl⟩) (em_lenT (P1 := fun ds => ds = ls) (em_var rfl hd5x ⟨ls, rfl, rfl⟩) fun ds h => by rw [h]) fun i j hi hj => by rw [hi, hj]) (em_int ⟨_, rfl, rfl⟩) fun i j hi hj => by rw [hi, hj, ← h1]; rfl) fun h1 => by rw [← h1]; rfl) ?_
      rintro v d H11 e11 hd11 ⟨due, rfl, hdue⟩
      cases dpB hd11
      -- found
      have hsw : Sm (.tuple [.str kind, .tuple (fs.take ahead ++ [blk] ++ fs.drop ahead)]) := by
        refine .tuple ok20 (all2 (.str _) (.tuple ?_ fun x hx => ?_))
        · rw [List.length_append, List.length_append, List.length_singleton]; omega
        · rcases List.mem_append.mp hx with hx | hx
          · rcases List.mem_append.mp hx with hx | hx
            · exact (hfa x hx).sm
            · have := nst_sm hnst hsi
              exact (this.tupI).2 x hx
          · exact (hfb x hx).sm
      have hpw : isProg (.tuple [.str kind, .tuple (fs.take ahead ++ [blk] ++ fs.drop ahead)]) = due := by
        rw [k02_whole hkd (deep := deep) (by omega) rfl hls hnst hfa hfb rfl, hdue]
        congr 1
        exact decide_eq_decide.mpr ⟨fun h => by omega, fun h => by omega⟩
      refine m_asg (K := K) (P := IsB fun c => c = due) e11.j (em_prog (em_is rfl (e11.dp hd10)) fun d hd => by rw [hd]; exact ⟨hsw, hpw⟩) ?_
      rintro v d H12 e12 hd12 ⟨found, rfl, hfd⟩
      cases dpB hd12
      subst hfd
      -- if not isinstance(found, bool) or found != due
      refine m_when e12.j (P := fun c => c = false) (emt_or (P1 := fun c => c = false) (emt_not (emt_B (em_isi (K := K) (P := fun b => (!b) = false) (em_is rfl (.bl _)) fun d hd => ⟨true, by rw [hd]; exact kit_bool _, rfl⟩))) (fun _ => emt_test (em_neB (K := K) (P1 := fun c => c = found) (P2 := fun c => c = found) (em_var rfl (.bl _) ⟨_, rfl, rfl⟩) (em_var rfl (.bl _) ⟨_, rfl, rfl⟩) fun i j hi hj => by rw [hi, hj]; simp)) fun h => h) (fun h => by cases h) fun _ H13 e13 => ?_
      -- edge, good = ..
      refine em_no (G := edgeG) (K := K) (W := W) rfl hB H13 (.refl e13.j) _ fun ve de H14 e14 hd14 hedge => ?_
      obtain ⟨st, good, rfl, hst⟩ := hedge
      obtain ⟨te, xe, rfl, hse, hde⟩ := dpT hd14
      obtain ⟨x0, x1, rfl⟩ := len2 (dpAll_len hde)
      obtain ⟨_, _, e, hx0, hx1'⟩ := dp2 hde
      cases e
      cases dpB hx1'
      refine ⟨te, _, rfl, sqT_wo hse, rfl, _, _, rfl, _, _, rfl, rfl, ?_⟩
      -- the last test
      refine m_ifL e14.j (P := fun c => c = false) (emt_test (em_neB (K := K) (P1 := fun c => c = good) (P2 := fun c => c = good) (em_prog (P1 := fun d => ∃ n body, d = .tuple [.str kind, body] ∧ n ≤ 3 ∧ Nst n (.tuple [st]) body) (em_tup (ema_cons (P1 := fun d => d = .str kind) (em_var rfl (.str kind) rfl) fun d0 h0 => ema_cons (P1 := fun d => ∃ n, n ≤ 3 ∧ Nst n (.tuple [st]) d) (Em.imp (em_help (A' := fun ds => ∃ n : Nat, ds = [.int n, .tuple [st]] ∧ n ≤ 3) rfl hB (ema_cons (em_drawN rfl hB) fun d hd => ema_cons (P1 := fun d => d = .tuple [st]) (em_tup (ema_cons (em_is rfl hx0) fun d0 h0 => ema_nil ⟨ok20, by rw [h0]⟩)) fun d' hd' => ema_nil ?_) ?_) ?_) fun d1 h1 => ema_nil ⟨ok20, ?_⟩)) ?_) (em_var rfl (.bl _) ⟨_, rfl, rfl⟩) fun i j hi hj => by rw [hi, hj]; simp)) (fun h => by cases h) fun _ H15 e15 => ?_
      · obtain ⟨r, rfl, h1, h2⟩ := hd
        exact ⟨r.toNat, by rw [hd', Int.toNat_of_nonneg h1], by omega⟩
      · rintro ds ⟨n, rfl, hn⟩; exact ⟨n, _, rfl, by omega, .tuple ok20 (all1 hst.1)⟩
      · rintro d ⟨ds, ⟨n, rfl, hn⟩, m, i, e, h⟩
        have h1 : (m : Int) = (n : Int) := by injection e with e _; injection e with e; exact e.symm
        have h2 : i = .tuple [st] := by injection e with _ e; injection e with e; exact e.symm
        rw [h2] at h
        exact ⟨m, by omega, h⟩
      · obtain ⟨n, hn, h1⟩ := h1
        exact ⟨n, d1, by rw [h0], hn, h1⟩
      · rintro d ⟨n, body, rfl, hn, hb⟩
        exact ⟨.tuple ok20 (all2 (.str _) (nst_sm hb (.tuple ok20 (all1 hst.1)))), k02_edge hkd hst hn hb⟩
      have hfin := e3.trans (e4.trans (e5.trans (e6.trans (e7.trans (e8.trans (e9.trans (e10.trans (e11.trans (e12.trans (e13.trans (e14.trans e15)))))))))))
      exact ⟨_, _, _, _, _, _, _, _, _, _, _, _, _, _, rfl, sqL_wo (ex_l hfin.s hsx)⟩
    · rintro σ' H1 ⟨o1, o2, o3, o4, o5, o6, o7, o8, o9, o10, o11, o12, o13, o14, rfl, hx1⟩
      refine s_ret (ev_opLL (el_lst (ea_cons ev_c (ea_cons ev_c (ea_cons ev_c ea_nil))) (by show 3 ≤ 100000; decide)) (el_lst (ea_cons (ev_op ev_c ev_c (rv_I ⟨by decide, by decide, by decide⟩)) (ea_cons ev_c (ea_cons ev_c ea_nil))) (by show 3 ≤ 100000; decide)) (z := .bl true) fun p q H2 hp hq e2 => ?_) fun H2 e2 => kk H2
      intro H3 e3 Q3 q3
      refine ⟨.list [.int 1000000000000000000000000000000, .int 4, .int 24], .list [.int 1000000000000000000000000000000, .int 4, .int 24], .lst (sq_of (e3 _ _ hp)) (.cons (.int _) (.cons (.int _) (.cons (.int _) .nil))), .lst (sq_of (e3 _ _ hq)) (.cons (.int _) (.cons (.int _) (.cons (.int _) .nil))), by decide +kernel, by decide +kernel, ?_⟩
      have : PyData.eqv (.list [.int 1000000000000000000000000000000, .int 4, .int 24]) (.list [.int 1000000000000000000000000000000, .int 4, .int 24]) = true := by decide +kernel
      rw [this]
      exact q3 H3 (Ex.refl _)
end

end Nt

namespace Nt
open PySem PySem.Spec PyProof.Rows L2
def d_is_integer : He.DefD := ⟨("is_integer", none), "is_integer", "is_integer", defArgs s_is_integer, defBody s_is_integer, defScope s_is_integer, [], []⟩
def d_is_one_of : He.DefD := ⟨("is_one_of", none), "is_one_of", "is_one_of", defArgs s_is_one_of, defBody s_is_one_of, defScope s_is_one_of, [], []⟩
def d_is_value : He.DefD := ⟨("is_value", none), "is_value", "is_value", defArgs s_is_value, defBody s_is_value, defScope s_is_value, [], []⟩
def d_is_term : He.DefD := ⟨("is_term", none), "is_term", "is_term", defArgs s_is_term, defBody s_is_term, defScope s_is_term, [], []⟩
def d_is_condition : He.DefD := ⟨("is_condition", none), "is_condition", "is_condition", defArgs s_is_condition, defBody s_is_condition, defScope s_is_condition, [], []⟩
def d_is_set : He.DefD := ⟨("is_set", none), "is_set", "is_set", defArgs s_is_set, defBody s_is_set, defScope s_is_set, [], []⟩
def d_is_add : He.DefD := ⟨("is_add", none), "is_add", "is_add", defArgs s_is_add, defBody s_is_add, defScope s_is_add, [], []⟩
def d_is_wait : He.DefD := ⟨("is_wait", none), "is_wait", "is_wait", defArgs s_is_wait, defBody s_is_wait, defScope s_is_wait, [], []⟩
def d_is_ask : He.DefD := ⟨("is_ask", none), "is_ask", "is_ask", defArgs s_is_ask, defBody s_is_ask, defScope s_is_ask, [], []⟩
def d_is_answer : He.DefD := ⟨("is_answer", none), "is_answer", "is_answer", defArgs s_is_answer, defBody s_is_answer, defScope s_is_answer, [], []⟩
def d_is_one_term : He.DefD := ⟨("is_one_term", none), "is_one_term", "is_one_term", defArgs s_is_one_term, defBody s_is_one_term, defScope s_is_one_term, [], []⟩
def d_count_block : He.DefD := ⟨("count_block", none), "count_block", "count_block", defArgs s_count_block, defBody s_count_block, defScope s_count_block, [], []⟩
def d_count_statement : He.DefD := ⟨("count_statement", none), "count_statement", "count_statement", defArgs s_count_statement, defBody s_count_statement, defScope s_count_statement, [], []⟩
def d_count_body : He.DefD := ⟨("count_body", none), "count_body", "count_body", defArgs s_count_body, defBody s_count_body, defScope s_count_body, [], []⟩
def d_is_program : He.DefD := ⟨("is_program", none), "is_program", "is_program", defArgs s_is_program, defBody s_is_program, defScope s_is_program, [], []⟩
def d__law_bag : He.DefD := ⟨("_law_bag", none), "_law_bag", "_law_bag", defArgs s__law_bag, defBody s__law_bag, defScope s__law_bag, [], []⟩
def d__law_draw : He.DefD := ⟨("_law_draw", none), "_law_draw", "_law_draw", defArgs s__law_draw, defBody s__law_draw, defScope s__law_draw, [], []⟩
def d__law_large : He.DefD := ⟨("_law_large", none), "_law_large", "_law_large", defArgs s__law_large, defBody s__law_large, defScope s__law_large, [], []⟩
def d__law_steps : He.DefD := ⟨("_law_steps", none), "_law_steps", "_law_steps", defArgs s__law_steps, defBody s__law_steps, defScope s__law_steps, [], []⟩
def d__law_term : He.DefD := ⟨("_law_term", none), "_law_term", "_law_term", defArgs s__law_term, defBody s__law_term, defScope s__law_term, [], []⟩
def d__law_condition : He.DefD := ⟨("_law_condition", none), "_law_condition", "_law_condition", defArgs s__law_condition, defBody s__law_condition, defScope s__law_condition, [], []⟩
def d__law_simple : He.DefD := ⟨("_law_simple", none), "_law_simple", "_law_simple", defArgs s__law_simple, defBody s__law_simple, defScope s__law_simple, [], []⟩
def d__law_kind : He.DefD := ⟨("_law_kind", none), "_law_kind", "_law_kind", defArgs s__law_kind, defBody s__law_kind, defScope s__law_kind, [], []⟩
def d__law_nested : He.DefD := ⟨("_law_nested", none), "_law_nested", "_law_nested", defArgs s__law_nested, defBody s__law_nested, defScope s__law_nested, [], []⟩
def d__law_edge : He.DefD := ⟨("_law_edge", none), "_law_edge", "_law_edge", defArgs s__law_edge, defBody s__law_edge, defScope s__law_edge, [], []⟩
def d_law : He.DefD := ⟨("law", none), "law", "law", defArgs s_law, defBody s_law, defScope s_law, [], []⟩
def fn : List He.DefD := ([d_is_integer, d_is_one_of, d_is_value, d_is_term, d_is_condition, d_is_set, d_is_add, d_is_wait, d_is_ask, d_is_answer, d_is_one_term, d_count_block, d_count_statement, d_count_body, d_is_program, d__law_bag, d__law_draw, d__law_large, d__law_steps, d__law_term, d__law_condition, d__law_simple, d__law_kind, d__law_nested, d__law_edge, d_law] : List He.DefD)
def fa : List He.Fa := ([.free "range", .free "isinstance", .free "int", .free "str", .free "len", .free "sum", .free "abs", .free "max", .free "bool", .free "tuple", .free "min", .int "MOST_STATEMENTS" 24, .int "MOST_DEPTH" 4, .int "LONGEST_WAIT" 1000000000000000000000000000000, .int "SIZE" 16, .glo "VARIABLES", .glo "COMPARISONS", .glo "DIRECTIONS", .glo "WORDS", .glo "BODIES", .glo "CHECKS", .glo "is_integer", .glo "is_one_of", .glo "is_value", .glo "is_term", .glo "is_condition", .glo "is_set", .glo "is_add", .glo "is_wait", .glo "is_ask"] : List He.Fa) ++ ([.glo "is_answer", .glo "is_one_term", .glo "count_block", .glo "count_statement", .glo "count_body", .glo "is_program", .glo "_law_bag", .glo "_law_draw", .glo "_law_large", .glo "_law_steps", .glo "_law_term", .glo "_law_condition", .glo "_law_simple", .glo "_law_kind", .glo "_law_nested", .glo "_law_edge", .glo "law"] : List He.Fa)
def ts : List He.Tab := ([(fun K => He.ga K "WORDS", ["teller", "collector"]), (fun K => He.ga K "BODIES", ["if", "while"]), (fun K => He.ga K "CHECKS", ["set", "add", "wait", "ask", "answer", "grow", "list"])] : List He.Tab)
def exs (K : PySem.W.Frag) : List Bool := [(kTup K (He.ga K "VARIABLES") [.str "a", .str "b"]), (kTup K (He.ga K "COMPARISONS") [.str "==", .str "!=", .str "<"]), (kTup K (He.ga K "DIRECTIONS") [.str "+", .str "-", .str "="]), (kTab K (He.ga K "WORDS") [("teller", .adr (tabAt "WORDS" "teller")), ("collector", .adr (tabAt "WORDS" "collector"))]), (kTup K (tabAt "WORDS" "teller" K) [.str "set", .str "add", .str "wait", .str "ask", .str "answer"]), (kTup K (tabAt "WORDS" "collector" K) [.str "set", .str "add", .str "wait", .str "grow", .str "list"]), (kTab K (He.ga K "BODIES") [("if", .int 2), ("while", .int 1)]), (kTab K (He.ga K "CHECKS") [("set", .glo "is_set"), ("add", .glo "is_add"), ("wait", .glo "is_wait"), ("ask", .glo "is_ask"), ("answer", .glo "is_answer"), ("grow", .glo "is_one_term"), ("list", .glo "is_one_term")])]
def ex (K : PySem.W.Frag) : Bool := (exs K).all id
abbrev R : PySem.W.OpenRow := PySem.W.OpenLaw.row PySem.Challenge.rw_neithertells_k02_programs_at_their_bound
abbrev hk : PySem.W.Hook := He.hookX 5 fa fn ts [] ex
def ob (s : PySem.W.SharedT) : He.AlX := He.obsX 5 fa fn ts [] ex (HandSHeadRun.getT s)
theorem ob_eq (s : PySem.W.SharedT) : ob s = hk.obs s.abs := He.obsX_eq (HandSHeadRun.getT_eq s)
def looseN : List Str := (["__name__", "MOST_STATEMENTS", "MOST_DEPTH", "LONGEST_WAIT", "SIZE", "VARIABLES", "COMPARISONS", "DIRECTIONS", "WORDS", "BODIES", "is_integer", "is_one_of", "is_value", "is_term", "is_condition", "is_set", "is_add", "is_wait", "is_ask", "is_answer", "is_one_term", "CHECKS", "count_block", "count_statement", "count_body", "is_program", "_law_bag", "_law_draw", "_law_large", "_law_steps"] : List Str) ++ (["_law_term", "_law_condition", "_law_simple", "_law_kind", "_law_nested", "_law_edge"] : List Str)
theorem run (w : World) : HandSHeadRun.RunEq R (PySem.W.view R.prog [37]) hk ob 8000 looseN w := PySem.W.byRow2 "special-get-raises" (P := fun w => HandSHeadRun.RunEq R (PySem.W.view R.prog [37]) hk ob 8000 looseN w) (fun w => by intro os; kernel_rfl) (fun w => by intro os; kernel_rfl) w
theorem ex_at {K : PySem.W.Frag} (h : ex K = true) (i : Nat) {b : Bool} (e : (exs K)[i]? = some b := by rfl) : b = true := by
  have h1 := List.all_eq_true.mp h b (List.mem_of_getElem? e)
  exact h1
theorem txt_mk {w : World} {K : PySem.W.Frag} {h : Heap} {mg : Str → Option Value} (X : K.In h) (G : h.Ns mainGlobals mg) (c : He.SaysX fa fn ts [] ex w h K) : Txt w K mg where
  m_range := He.free_ok X G (c.t.d.fact 0)
  m_isinstance := He.free_ok X G (c.t.d.fact 1)
  m_int := He.free_ok X G (c.t.d.fact 2)
  m_str := He.free_ok X G (c.t.d.fact 3)
  m_len := He.free_ok X G (c.t.d.fact 4)
  m_sum := He.free_ok X G (c.t.d.fact 5)
  m_abs := He.free_ok X G (c.t.d.fact 6)
  m_max := He.free_ok X G (c.t.d.fact 7)
  m_bool := He.free_ok X G (c.t.d.fact 8)
  m_tuple := He.free_ok X G (c.t.d.fact 9)
  m_min := He.free_ok X G (c.t.d.fact 10)
  c_MOST_STATEMENTS := He.int_ok X G (c.t.d.fact 11)
  c_MOST_DEPTH := He.int_ok X G (c.t.d.fact 12)
  c_LONGEST_WAIT := He.int_ok X G (c.t.d.fact 13)
  c_SIZE := He.int_ok X G (c.t.d.fact 14)
  g_VARIABLES := He.glo_ok X G (c.t.d.fact 15)
  t_VARIABLES := kTup_ok (ex_at c.more 0 (b := (kTup K (He.ga K "VARIABLES") [.str "a", .str "b"])) rfl)
  g_COMPARISONS := He.glo_ok X G (c.t.d.fact 16)
  t_COMPARISONS := kTup_ok (ex_at c.more 1 (b := (kTup K (He.ga K "COMPARISONS") [.str "==", .str "!=", .str "<"])) rfl)
  g_DIRECTIONS := He.glo_ok X G (c.t.d.fact 17)
  t_DIRECTIONS := kTup_ok (ex_at c.more 2 (b := (kTup K (He.ga K "DIRECTIONS") [.str "+", .str "-", .str "="])) rfl)
  g_WORDS := He.glo_ok X G (c.t.d.fact 18)
  d_WORDS := kTab_ok (ex_at c.more 3 (b := (kTab K (He.ga K "WORDS") [("teller", .adr (tabAt "WORDS" "teller")), ("collector", .adr (tabAt "WORDS" "collector"))])) rfl) (c.t.tab 0 (t := (fun K => He.ga K "WORDS", ["teller", "collector"])) rfl)
  t_WORDS_teller := kTup_ok (ex_at c.more 4 (b := (kTup K (tabAt "WORDS" "teller" K) [.str "set", .str "add", .str "wait", .str "ask", .str "answer"])) rfl)
  t_WORDS_collector := kTup_ok (ex_at c.more 5 (b := (kTup K (tabAt "WORDS" "collector" K) [.str "set", .str "add", .str "wait", .str "grow", .str "list"])) rfl)
  g_BODIES := He.glo_ok X G (c.t.d.fact 19)
  d_BODIES := kTab_ok (ex_at c.more 6 (b := (kTab K (He.ga K "BODIES") [("if", .int 2), ("while", .int 1)])) rfl) (c.t.tab 1 (t := (fun K => He.ga K "BODIES", ["if", "while"])) rfl)
  g_CHECKS := He.glo_ok X G (c.t.d.fact 20)
  d_CHECKS := kTab_ok (ex_at c.more 7 (b := (kTab K (He.ga K "CHECKS") [("set", .glo "is_set"), ("add", .glo "is_add"), ("wait", .glo "is_wait"), ("ask", .glo "is_ask"), ("answer", .glo "is_answer"), ("grow", .glo "is_one_term"), ("list", .glo "is_one_term")])) rfl) (c.t.tab 2 (t := (fun K => He.ga K "CHECKS", ["set", "add", "wait", "ask", "answer", "grow", "list"])) rfl)
  g_is_integer := He.glo_ok X G (c.t.d.fact 21)
  F_is_integer := c.t.d.def_ 0 (d := d_is_integer) rfl
  g_is_one_of := He.glo_ok X G (c.t.d.fact 22)
  F_is_one_of := c.t.d.def_ 1 (d := d_is_one_of) rfl
  g_is_value := He.glo_ok X G (c.t.d.fact 23)
  F_is_value := c.t.d.def_ 2 (d := d_is_value) rfl
  g_is_term := He.glo_ok X G (c.t.d.fact 24)
  F_is_term := c.t.d.def_ 3 (d := d_is_term) rfl
  g_is_condition := He.glo_ok X G (c.t.d.fact 25)
  F_is_condition := c.t.d.def_ 4 (d := d_is_condition) rfl
  g_is_set := He.glo_ok X G (c.t.d.fact 26)
  F_is_set := c.t.d.def_ 5 (d := d_is_set) rfl
  g_is_add := He.glo_ok X G (c.t.d.fact 27)
  F_is_add := c.t.d.def_ 6 (d := d_is_add) rfl
  g_is_wait := He.glo_ok X G (c.t.d.fact 28)
  F_is_wait := c.t.d.def_ 7 (d := d_is_wait) rfl
  g_is_ask := He.glo_ok X G (c.t.d.fact 29)
  F_is_ask := c.t.d.def_ 8 (d := d_is_ask) rfl
  g_is_answer := He.glo_ok X G (c.t.d.fact 30)
  F_is_answer := c.t.d.def_ 9 (d := d_is_answer) rfl
  g_is_one_term := He.glo_ok X G (c.t.d.fact 31)
  F_is_one_term := c.t.d.def_ 10 (d := d_is_one_term) rfl
  g_count_block := He.glo_ok X G (c.t.d.fact 32)
  F_count_block := c.t.d.def_ 11 (d := d_count_block) rfl
  g_count_statement := He.glo_ok X G (c.t.d.fact 33)
  F_count_statement := c.t.d.def_ 12 (d := d_count_statement) rfl
  g_count_body := He.glo_ok X G (c.t.d.fact 34)
  F_count_body := c.t.d.def_ 13 (d := d_count_body) rfl
  g_is_program := He.glo_ok X G (c.t.d.fact 35)
  F_is_program := c.t.d.def_ 14 (d := d_is_program) rfl
  g__law_bag := He.glo_ok X G (c.t.d.fact 36)
  F__law_bag := c.t.d.def_ 15 (d := d__law_bag) rfl
  g__law_draw := He.glo_ok X G (c.t.d.fact 37)
  F__law_draw := c.t.d.def_ 16 (d := d__law_draw) rfl
  g__law_large := He.glo_ok X G (c.t.d.fact 38)
  F__law_large := c.t.d.def_ 17 (d := d__law_large) rfl
  g__law_steps := He.glo_ok X G (c.t.d.fact 39)
  F__law_steps := c.t.d.def_ 18 (d := d__law_steps) rfl
  g__law_term := He.glo_ok X G (c.t.d.fact 40)
  F__law_term := c.t.d.def_ 19 (d := d__law_term) rfl
  g__law_condition := He.glo_ok X G (c.t.d.fact 41)
  F__law_condition := c.t.d.def_ 20 (d := d__law_condition) rfl
  g__law_simple := He.glo_ok X G (c.t.d.fact 42)
  F__law_simple := c.t.d.def_ 21 (d := d__law_simple) rfl
  g__law_kind := He.glo_ok X G (c.t.d.fact 43)
  F__law_kind := c.t.d.def_ 22 (d := d__law_kind) rfl
  g__law_nested := He.glo_ok X G (c.t.d.fact 44)
  F__law_nested := c.t.d.def_ 23 (d := d__law_nested) rfl
  g__law_edge := He.glo_ok X G (c.t.d.fact 45)
  F__law_edge := c.t.d.def_ 24 (d := d__law_edge) rfl
  g_law := He.glo_ok X G (c.t.d.fact 46)
  F_law := c.t.d.def_ 25 (d := d_law) rfl
end Nt

open PySem PySem.W PySem.Calls PyProof.Rows
set_option maxRecDepth 100000 in
set_option maxHeartbeats 0 in
theorem PySem.Challenge.cw_neithertells_k02_programs_at_their_bound_holds : PySem.Challenge.rw_neithertells_k02_programs_at_their_bound.Holds := by
  w_on; o_law
  refine HandSHeadRun.head_any (r := PySem.W.OpenLaw.row PySem.Challenge.rw_neithertells_k02_programs_at_their_bound) (q := view (PySem.W.OpenLaw.row PySem.Challenge.rw_neithertells_k02_programs_at_their_bound).prog [37]) (H := Nt.hk) (ob := Nt.ob) (M := 8000) (loose := Nt.looseN) (d := HandSHeadRun.topDef (PySem.W.OpenLaw.row PySem.Challenge.rw_neithertells_k02_programs_at_their_bound).prog 37) (kwd := []) Nt.ob_eq
    (by kernel_rfl) (fun s => by kernel_rfl) Nt.run (by kernel_rfl) (by kernel_rfl) (by kernel_rfl) (by rfl) (by first | assumption | decide +kernel) (by decide +kernel) ⟨rfl, rfl, rfl, rfl, rfl, by decide +kernel⟩ ?hw ?hc
  case hw => w_witness2
  case hc =>
    refine L2.walk_ofE (l := PySem.Challenge.rw_neithertells_k02_programs_at_their_bound) (n := 63) (k := 18) (x := "_law_script") (CX := L2.CX0) rfl (by decide) (by kernel_rfl) ⟨rfl, by decide, by decide⟩ ?F (fun _ _ _ _ z => z)
    intro w mg fa h Y G hmg0
    obtain ⟨K, KX, c⟩ := Y
    have hmg : mg ("law" : PySem.Str) = some (.ref fa) := by
      have e : (HandSHeadRun.topDef (PySem.W.OpenLaw.row PySem.Challenge.rw_neithertells_k02_programs_at_their_bound).prog 37).name = ("law" : PySem.Str) := by kernel_rfl
      rw [← e]
      exact hmg0
    have T := Nt.txt_mk KX G c
    obtain ⟨fd, F⟩ := T.F_law
    have e := hmg.symm.trans T.g_law
    cases e
    have b := L2.FunD.bindsA (ps := ["_law_script"]) F fun _ _ _ _ _ _ us hl => match us, hl with | [_], _ => rfl
    exact ⟨K, fd, Nt.spLaw K, KX, fun s v => b s [v] rfl, fun H a ns hl _ hS => ⟨a, ns, rfl, hS, hl, fun _ => rfl⟩, fun base _ _ => Nt.ok_law T F⟩
