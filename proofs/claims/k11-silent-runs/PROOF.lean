import PyProof.Rows.All
import Wide.All
import OpenK.AllK
import Wide.FinOn
import KE.KUnpackStar
import HandS.ForMost
import HandS.ForExc
import HandS.Evl
import HandS.IsInst
import HandS.CallLocal
import HandS.Defaults
import HandS.TupAny
import HandS.TupLe
import HandS.Flow
import HandS.Head0
import HandS.Head1
import HandS.Head2
import HandS.HeadEnd
import HandS.HeadHook1
import HandS.HeadHook2
import HandS.HeadHook3
import HandS.HeadHook4
import HandS.NoneIn
import HandS.ExcIs
import HandS.MakeKwOnly
import HandS.Small
import KE.DataEq
import HandS.WordsExc
import HandS.FStr
import HandS.Text
import HandS.Style
import HandS.RaiseMore
import HandS.SetKeys
import HandS.Wide
import HandS.Deep
import HandS.SortInts
import HandS.More
import HandS.DictComp
import KE.KSortedM
import HandS.OwnEq
import PyProof.InstNe
import PySem.Challenge.RW_neithertells_k11_silent_runs
set_option Elab.async false
set_option linter.all false
set_option maxRecDepth 100000
set_option maxHeartbeats 4000000

namespace Nt
open PySem PySem.Spec PyProof.Rows L2
/-! ### a def behind its name -/
structure Def (P : Program) (w : World) (K : PySem.W.Frag) (mg : Str → Option Value) (base : Heap) (CX : CXT) (k : Nat) (x : Str) (ps : List Str) (sp : Sp) : Prop where
  ex : ∃ (f : Addr) (fd : FuncData), mg x = some (.ref f) ∧ PySem.W.keepIn K (.ref f) = true ∧ Binds K fd ps [] ∧ FnOk P w K mg base CX k f fd ps sp
theorem Def.mono {P : Program} {w : World} {K : PySem.W.Frag} {mg : Str → Option Value} {base : Heap} {CX : CXT} {j k : Nat} {x : Str} {ps : List Str} {sp : Sp} (D : Def P w K mg base CX j x ps sp) (h : j ≤ k) : Def P w K mg base CX k x ps sp := by
  obtain ⟨f, fd, h1, h2, h3, h4⟩ := D.ex
  exact ⟨f, fd, h1, h2, h3, h4.mono h⟩
section
variable {X : Cx} {CX : CXT} {k : Nat} {ps : List Str} {sp : Sp} {E : XK} {x : Str} {p pos : Pos} {e : Expr} {es : List Expr} {t : TA}
theorem pe_callD (D : Def X.prog X.w X.K X.mg X.base CX k x ps sp) (hr : Room k X.A) (hg : Gl X x) (hx : Passes CX X E) (ha : PA X (e :: es) t) (hdb : (x == ("__debug__" : Str)) = false := by decide)
    (he : starEach (e :: es) X.env = (false, eval e X.env) :: starEach es X.env := by rfl) (hpl : (backTo pos (starEach es X.env)).any (·.1) = false := by rfl) :
    PE X (.Call (.Name x p) (e :: es) [] pos) (tCall sp [] E t) := by
  obtain ⟨f, fd, h1, h2, h3, h4⟩ := D.ex
  exact pe_call h4 hr hg h1 h2 h3 .nil hx ha hdb he hpl
theorem pe_gint {i : Int} (hg : Gl X x) (hm : ∃ t, X.mg x = some (.int i t)) (hd : (x == ("__debug__" : Str)) = false := by decide) : PE X (.Name x pos) (tC (.int i)) := by
  obtain ⟨t, h⟩ := hm
  exact pe_glob hg h ⟨t, rfl⟩ hd
theorem pe_gref {a : Addr} (hg : Gl X x) (hm : X.mg x = some (.ref a)) (hd : (x == ("__debug__" : Str)) = false := by decide) : PE X (.Name x pos) (tC (.ref a)) := pe_glob hg hm rfl hd
theorem pe_gstr {z : Str} (hg : Gl X x) (hm : ∃ t, X.mg x = some (.str z t)) (hd : (x == ("__debug__" : Str)) = false := by decide) : PE X (.Name x pos) (tC (.str z)) := by
  obtain ⟨t, h⟩ := hm
  exact pe_glob hg h ⟨t, rfl⟩ hd
end
/-! ### word, *parts = a tuple -/
section
variable {X : Cx} {pos : Pos}
def gStar (K : PySem.W.Frag) (n i : Nat) (t : TGs) : TG := fun v σ H Q => ∃ a xs, v = .ref a ∧ SqT K H a xs ∧ n ≤ xs.length + 1 ∧ i < n ∧
  ∀ p, H p = none → t (xs.take i ++ [.ref p] ++ (xs.drop i).drop (xs.length + 1 - n)) σ (upd H p (.lst ((xs.drop i).take (xs.length + 1 - n)))) Q
theorem pg_star {es : List Expr} {k : Nat} {t : TGs} {n i : Nat} (hc : X.calm = true) (h : PGs X es t)
    (hlen : (assignEach es X.env).length = n := by rfl) (hstar : (assignEach es X.env).findIdx? (·.1) = some i := by rfl) : PG X (.Tuple es k pos) (gStar X.K n i t) := by
  refine ⟨fun pins s σ H v u Q I r hw => ?_⟩
  obtain ⟨a, xs, e1, hq, hn, hi, hw⟩ := hw
  subst e1
  cases r
  obtain ⟨its, rv, hl, hz⟩ := I.tuple hq
  have hxl : xs.length = its.length := rv.length
  have hh := I.ok.hd hc
  have hlt : a ≠ s.heap.objs.size := by obtain ⟨o, ho, _⟩ := hl; exact Nat.ne_of_lt (Heap.lt_size ho)
  have hsz : its.toArray.size = its.length := by simp
  rw [PyProof.Rows.assign_Tuple]
  refine wpAny_bind (wpAny_standAt ?_)
  unfold unpack
  rw [hlen, hstar]
  refine wpAny_bind (wpAny_holding ?_)
  unfold unpackItems
  refine wpAny_bind ?_
  unfold notIterableAtAll
  refine wpAny_bind (wpAny_specialOf hl.typeIs slot_tuple_iter.lookup ?_)
  refine wpAny_pure ?_
  simp only [Bool.false_eq_true, if_false]
  refine wpAny_bind (wpAny_holding (iter_tuple hl ?_))
  refine wpAny_bind (wpAny_holding (draw_tuple hlt i 0 _ _ ⟨_, Heap.get?_push_size _ rfl, rfl, rfl⟩ (hl.push _) (by omega) fun h₁ hit₁ hs₁ => ?_))
  have hl₁ : IsTup h₁ a its.toArray := (hl.push _).extBut hs₁.extBut hlt
  rw [Nat.zero_add] at hit₁
  have hit₁' := hit₁
  obtain ⟨oi, hoi, _⟩ := hit₁'
  have hl₁' := hl₁
  obtain ⟨ol, hol, _⟩ := hl₁'
  rw [List.drop_zero]
  have hfl : (its.toArray.toList.take i).length = i := by rw [List.length_take, Array.length_toList]; omega
  rw [if_neg (show ¬ ((its.toArray.toList.take i).length < i) by rw [hfl]; omega)]
  refine wpAny_bind (wpAny_holding (PySem.W.kun_collect (s := { s with heap := h₁ }) (T := "tuple_iterator") (.inr (.inr (.inr rfl))) (Walks.tuple (A := X.A.in1) hh s.heap.objs.size a hlt its.toArray) (fun j u st => st.1.typeIs) (k := i) (by omega) ⟨hit₁, hl₁⟩ (Heap.lt_size hoi) (Heap.lt_size hol) (fun h₂ tk hk => ?_) (by omega)))
  have hrl : (its.toArray.toList.drop i).length = its.length - i := by rw [List.length_drop, Array.length_toList, hsz]
  have hmid : (its.toArray.toList.drop i).length - (n - 1 - i) = xs.length + 1 - n := by rw [hrl]; omega
  show wpAny _ _ (if (its.toArray.toList.drop i).length < n - 1 - i then _ else _) _ _ _
  rw [if_neg (by rw [hrl]; omega)]
  show wpAny _ _ (newList ((its.toArray.toList.drop i).take ((its.toArray.toList.drop i).length - (n - 1 - i))) >>= fun d => pure (its.toArray.toList.take i ++ [d] ++ (its.toArray.toList.drop i).drop ((its.toArray.toList.drop i).length - (n - 1 - i)))) _ _ _
  rw [hmid]
  have he : Heap.ExtBut s.heap.objs.size s.heap h₂ := fun b o hb e => hk b o hb (hs₁.extBut b o hb (Heap.get?_push_of_some _ e))
  have I1 : Inv X pins σ H { s with heap := h₂, toks := tk } := I.kept (t' := tk) fun b o e => he b o (Nat.ne_of_lt (Heap.lt_size e)) e
  have htl : its.toArray.toList = its := by simp
  rw [htl]
  refine wpAny_bind (wpAny_newList ?_ ?_)
  · refine wpAny_pure ?_
    have hf : H h₂.objs.size = none := I1.hok.fresh (Nat.le_refl _)
    have I2 := I1.laid (a := h₂.objs.size) (o := .lst ((xs.drop i).take (xs.length + 1 - n))) (h' := h₂.push { cls := .type "list", data := .seq ((its.drop i).take (xs.length + 1 - n)).toArray }) (t' := tk) (fun b u e => Heap.get?_push_of_some _ e) (Nat.le_refl _)
      ⟨by rw [List.length_take, List.length_drop]; omega, _, 0, (rv.drop i).take _, Heap.get?_push_size _ rfl⟩
    exact h.run pins _ σ _ _ _ Q I2 (((rv.take i).append (.cons (show RelV (.ref h₂.objs.size) (.ref h₂.objs.size) from rfl) .nil)).append ((rv.drop i).drop _)) (hw _ hf)
  · rw [List.length_take, List.length_drop]; omega
theorem pgs_star {e : Expr} {p : Pos} {t : TG} (h1 : PG X e t) (hs : (assignEach [.Starred e p] X.env).map (·.2) = [assign e X.env] := by rfl) : PGs X [.Starred e p] (gCons t gNil) := by
  refine ⟨fun pins s σ H vs us Q I r h => ?_⟩
  obtain ⟨v, vr, e1, h⟩ := h
  subst e1
  cases r with
  | cons r rr =>
    rw [hs]
    have h2 := h1.run pins s σ H v _ (fun σ' H' => gNil vr σ' H' Q) I r h
    refine assignInOrder_cons (thn h2 fun _ s1 ⟨σ', H', I', q⟩ => ?_)
    exact pgs_nil.run pins s1 σ' H' vr _ Q I' rr q
end

/-! ### a def from its text -/
section
variable {P : Program} {w : World} {K : PySem.W.Frag} {mg : Str → Option Value} {base : Heap} {x qual : Str} {params : Arguments} {body : List Stmt} {scope : Scope}
theorem mkDef {CX : CXT} {N ps : List Str} {k : Nat} {sp : Sp} {f : Addr} (F : ∃ fd, FunD K x qual params body scope [] [] f fd) (g : mg x = some (.ref f)) (S : FnScope N ps scope)
    (hb : ∀ (kV doc pm : Value) (an : Option Addr) (cdv ct : Value) (us : List Value), us.length = ps.length → bindArgs (PySem.W.fnOf x qual params body scope .none kV doc pm an cdv ct) ⟨us, []⟩ = pure (ps.zip us))
    (len : ∀ vs H Q E, sp vs H Q E → vs.length = ps.length)
    (hbody : ∀ (cdv : Value) (A : Around) (outer : List Env) (s : Shared) (H : Hp) (vs : List V) (Q : VK) (E : XK), Room k (A.deeper (envOfC qual scope s.heap.objs.size f cdv)) → sp vs H Q E →
      ∃ t, PSs (cxOf CX P w K mg base N qual scope f cdv A outer s H E) body t ∧ t { nx := fun _ H' => Q .non H', rt := Q } (start N vs) H) : Def P w K mg base CX (k + 1) x ps sp := by
  obtain ⟨fd, F⟩ := F
  exact ⟨f, fd, g, F.kp, F.bindsN hb, F.ok S len hbody⟩
end
/-! ### a written dict with text keys -/
structure DTab (K : PySem.W.Frag) (w : World) (a : Addr) (kvs : List (Str × V)) : Prop where
  kd : ∃ es n, KDict K w a es n
  val : ∀ z v, kvs.lookup z = some v → ∃ u, PySem.W.nsIn K a z = some (some u) ∧ RelV v u
  no : ∀ z, kvs.lookup z = none → PySem.W.nsIn K a z = some none
section
variable {X : Cx} {d : Addr} {kvs : List (Str × V)}
def rInTab (d : Addr) (kvs : List (Str × V)) : R2 := fun x y H Q => ∃ z : Str, x = .str z ∧ y = .ref d ∧ Q (.bl (kvs.lookup z).isSome) H
def rNiTab (d : Addr) (kvs : List (Str × V)) : R2 := fun x y H Q => ∃ z : Str, x = .str z ∧ y = .ref d ∧ Q (.bl (!(kvs.lookup z).isSome)) H
def rIxTab (d : Addr) (kvs : List (Str × V)) : R2 := fun x y H Q => ∃ (z : Str) (v : V), x = .ref d ∧ y = .str z ∧ kvs.lookup z = some v ∧ Q v H
theorem op_in_tab (D : DTab X.K X.w d kvs) : OpR X (compareOp .In) (rInTab d kvs) := by
  intro pins s σ H x y v u Q I rx ry h
  obtain ⟨z, rfl, rfl, q⟩ := h
  obtain ⟨es, n, kd⟩ := D.kd
  refine op_in_kd kd pins s σ H _ _ v u Q I rx ry ?_
  cases e : kvs.lookup z with
  | none =>
    rw [e] at q
    exact ⟨z, none, rfl, rfl, D.no z e, q⟩
  | some v0 =>
    obtain ⟨u0, h1, _⟩ := D.val z v0 e
    rw [e] at q
    exact ⟨z, some u0, rfl, rfl, h1, q⟩
theorem op_ni_tab (D : DTab X.K X.w d kvs) : OpR X (compareOp .NotIn) (rNiTab d kvs) := by
  intro pins s σ H x y v u Q I rx ry h
  obtain ⟨z, rfl, rfl, q⟩ := h
  obtain ⟨es, n, kd⟩ := D.kd
  refine op_notIn_kd kd pins s σ H _ _ v u Q I rx ry ?_
  cases e : kvs.lookup z with
  | none =>
    rw [e] at q
    exact ⟨z, none, rfl, rfl, D.no z e, q⟩
  | some v0 =>
    obtain ⟨u0, h1, _⟩ := D.val z v0 e
    rw [e] at q
    exact ⟨z, some u0, rfl, rfl, h1, q⟩
theorem ix_tab (D : DTab X.K X.w d kvs) : IxR X (rIxTab d kvs) := by
  intro value slice pins s σ H x y v u Q I rx ry h hs
  obtain ⟨z, v0, rfl, rfl, e, q⟩ := h
  obtain ⟨es, n, kd⟩ := D.kd
  obtain ⟨u0, h1, h2⟩ := D.val z v0 e
  exact ix_kdict value slice pins s σ H _ _ v u Q I rx ry ⟨d, z, v0, rfl, rfl, ⟨es, n, u0, kd.at_, kd.lit, h1, h2⟩, q⟩ hs
end
/-- the table's check by K alone -/
def kTab (K : PySem.W.Frag) (a : Addr) (kvs : List (Str × He.Dv)) : Bool := match K.lookup a with
  | some ⟨_, _, .dict es _, _⟩ => go es.toList kvs
  | _ => false
where go : List DictEntry → List (Str × He.Dv) → Bool
  | [], [] => true
  | e :: es, q :: qs => (match e.key with
    | .str y _ => decide (y = q.1)
    | _ => false) && (He.relB (q.2.v K) e.val && go es qs)
  | _, _ => false
theorem kTab_go {K : PySem.W.Frag} (z : Str) : ∀ {es : List DictEntry} {kvs : List (Str × He.Dv)}, kTab.go K es kvs = true → es.any (·.refKey) = false ∧
    ((∃ v e, kvs.lookup z = some v ∧ es.find? (·.key.isStr z) = some e ∧ RelV (v.v K) e.val) ∨ (kvs.lookup z = none ∧ es.find? (·.key.isStr z) = none))
  | [], [], _ => ⟨rfl, .inr ⟨rfl, rfl⟩⟩
  | [], _ :: _, h => by cases h
  | _ :: _, [], h => by cases h
  | e :: es, q :: qs, h => by
    obtain ⟨h1, h2⟩ := He.ba (show ((match e.key with | .str y _ => decide (y = q.1) | _ => false) && (He.relB (q.2.v K) e.val && kTab.go K es qs)) = true from h)
    obtain ⟨h3, h4⟩ := He.ba h2
    obtain ⟨i1, i2⟩ := kTab_go (K := K) z h4
    obtain ⟨qk, qv⟩ := q
    cases ek : e.key with
    | str y t =>
      rw [ek] at h1
      have ey : y = qk := of_decide_eq_true h1
      refine ⟨?_, ?_⟩
      · rw [List.any_cons, i1]
        simp [DictEntry.refKey, ek]
      · rw [List.find?_cons, List.lookup_cons, ek]
        by_cases hz : z = qk
        · have e1 : (Value.str y t).isStr z = true := by rw [ey, hz]; simp [Value.isStr]
          have e2 : (z == qk) = true := by rw [hz]; simp
          rw [e1, e2]
          exact .inl ⟨qv, e, rfl, rfl, He.relB_ok h3⟩
        · have e1 : (Value.str y t).isStr z = false := by
            rw [ey]
            simp only [Value.isStr]
            cases hq : (qk == z) with
            | false => rfl
            | true => exact absurd (eq_of_beq hq).symm hz
          have e2 : (z == qk) = false := beq_eq_false_iff_ne.mpr hz
          rw [e1, e2]
          exact i2
    | _ =>
      rw [ek] at h1
      cases h1
theorem kTab_ok {K : PySem.W.Frag} {w : World} {a : Addr} {kvs : List (Str × He.Dv)} (h : kTab K a kvs = true) (kd : ∃ es n, KDict K w a es n) : DTab K w a (kvs.map fun q => (q.1, q.2.v K)) := by
  unfold kTab at h
  cases q : K.lookup a with
  | none => rw [q] at h; cases h
  | some o =>
    obtain ⟨oc, od, dt, osl⟩ := o
    rw [q] at h
    cases dt with
    | dict es n =>
      have lk : ∀ z, (kvs.map fun q => (q.1, q.2.v K)).lookup z = (kvs.lookup z).map (He.Dv.v K) := by
        intro z
        clear h q kd
        induction kvs with
        | nil => rfl
        | cons p r ih =>
          obtain ⟨pk, pv⟩ := p
          rw [List.map_cons, List.lookup_cons, List.lookup_cons, ih]
          cases (z == pk) <;> rfl
      refine ⟨kd, fun z v e => ?_, fun z e => ?_⟩
      · rw [lk] at e
        obtain ⟨i1, i2⟩ := kTab_go (K := K) z h
        rcases i2 with ⟨v0, en, e1, e2, e3⟩ | ⟨e1, e2⟩
        · rw [e1] at e
          cases e
          exact ⟨en.val, by unfold PySem.W.nsIn; rw [q]; simp only [e2], e3⟩
        · rw [e1] at e
          cases e
      · rw [lk] at e
        obtain ⟨i1, i2⟩ := kTab_go (K := K) z h
        rcases i2 with ⟨v0, en, e1, e2, e3⟩ | ⟨e1, e2⟩
        · rw [e1] at e
          cases e
        · unfold PySem.W.nsIn
          rw [q]
          simp only [e2, i1]
          rfl
    | _ => cases h
/-- a written tuple at an address -/
def kTup (K : PySem.W.Frag) (a : Addr) (vs : List He.Dv) : Bool := match K.lookup a with
  | some ⟨.type c, _, .seq its _, _⟩ => decide (c = "tuple") && (decide (its.size ≤ 1000) && He.relAll (vs.map (He.Dv.v K)) its.toList)
  | _ => false
theorem kTup_ok {K : PySem.W.Frag} {a : Addr} {vs : List He.Dv} (h : kTup K a vs = true) (H : Hp) : SqT K H a (vs.map (He.Dv.v K)) := by
  unfold kTup at h
  cases q : K.lookup a with
  | none => rw [q] at h; cases h
  | some o =>
    obtain ⟨oc, od, dt, osl⟩ := o
    rw [q] at h
    cases oc with
    | type c =>
      cases dt with
      | seq its n =>
        obtain ⟨h1, h2⟩ := He.ba h
        obtain ⟨h3, h4⟩ := He.ba h2
        have ec : c = "tuple" := of_decide_eq_true h1
        subst ec
        exact .inr ⟨_, its, n, q, rfl, rfl, Nat.le_trans (of_decide_eq_true h3) (by decide), He.relAll_ok h4⟩
      | _ => cases h
    | _ => cases dt <;> cases h
/-- the value under a key of a written dict, if it is an object -/
def tabAt (x k : Str) (K : PySem.W.Frag) : Addr := match PySem.W.nsIn K (He.ga K x) k with
  | some (some (.ref a)) => a
  | _ => 0
/-! ### data -/
theorem Same.seqT {K : PySem.W.Frag} {H H' : Hp} {a : Addr} {xs : List V} (e : Same H H') (h : SqT K H a xs) : SqT K H' a xs := Evl.ex_t e h
theorem Same.new {H : Hp} {p : Addr} {o : HO} (h : H p = none) : Same H (upd H p o) := Evl.Ex.new h
mutual
theorem dp_mono {K : PySem.W.Frag} {H H' : Hp} (e : Same H H') : ∀ {v : V} {d : PyData}, Dp K H v d → Dp K H' v d
  | _, _, .non => .non
  | _, _, .bl b => .bl b
  | _, _, .int i => .int i
  | _, _, .str x => .str x
  | _, _, .lst h a => .lst (e.seq h) (dpAll_mono e a)
  | _, _, .tup h a => .tup (Same.seqT e h) (dpAll_mono e a)
theorem dpAll_mono {K : PySem.W.Frag} {H H' : Hp} (e : Same H H') : ∀ {vs : List V} {ds : List PyData}, DpAll K H vs ds → DpAll K H' vs ds
  | _, _, .nil => .nil
  | _, _, .cons h a => .cons (dp_mono e h) (dpAll_mono e a)
end
theorem dpAll_len {K : PySem.W.Frag} {H : Hp} : ∀ {vs : List V} {ds : List PyData}, DpAll K H vs ds → vs.length = ds.length
  | _, _, .nil => rfl
  | _, _, .cons _ a => congrArg Nat.succ (dpAll_len a)
theorem dpAll_get {K : PySem.W.Frag} {H : Hp} : ∀ {vs : List V} {ds : List PyData} {i : Nat} {v : V}, DpAll K H vs ds → vs[i]? = some v → ∃ d, ds[i]? = some d ∧ Dp K H v d
  | _, _, 0, _, .cons h _, e => by cases e; exact ⟨_, rfl, h⟩
  | _, _, i + 1, _, .cons _ a, e => dpAll_get (i := i) a e
theorem dpAll_get' {K : PySem.W.Frag} {H : Hp} : ∀ {vs : List V} {ds : List PyData} {i : Nat} {d : PyData}, DpAll K H vs ds → ds[i]? = some d → ∃ v, vs[i]? = some v ∧ Dp K H v d
  | _, _, 0, _, .cons h _, e => by cases e; exact ⟨_, rfl, h⟩
  | _, _, i + 1, _, .cons _ a, e => dpAll_get' (i := i) a e
theorem dpAll_drop {K : PySem.W.Frag} {H : Hp} : ∀ {vs : List V} {ds : List PyData} (n : Nat), DpAll K H vs ds → DpAll K H (vs.drop n) (ds.drop n)
  | _, _, 0, h => h
  | _, _, _ + 1, .nil => .nil
  | _, _, n + 1, .cons _ a => dpAll_drop n a
theorem dpAll_take {K : PySem.W.Frag} {H : Hp} : ∀ {vs : List V} {ds : List PyData} (n : Nat), DpAll K H vs ds → DpAll K H (vs.take n) (ds.take n)
  | _, _, 0, h => .nil
  | _, _, _ + 1, .nil => .nil
  | _, _, n + 1, .cons h a => .cons h (dpAll_take n a)
theorem dpAll_append {K : PySem.W.Frag} {H : Hp} : ∀ {vs us : List V} {ds es : List PyData}, DpAll K H vs ds → DpAll K H us es → DpAll K H (vs ++ us) (ds ++ es)
  | _, _, _, _, .nil, h => h
  | _, _, _, _, .cons h a, k => .cons h (dpAll_append a k)
def tyN : PyData → String
  | .none => "NoneType"
  | .bool _ => "bool"
  | .int _ => "int"
  | .str _ => "str"
  | .list _ => "list"
  | .tuple _ => "tuple"
  | .dict _ => "dict"
theorem dp_ty {K : PySem.W.Frag} {H : Hp} {v : V} {d : PyData} (h : Dp K H v d) : TyX K H v (.type (tyN d)) := by
  cases h with
  | non => exact .base .non
  | bl b => exact .base (.bl b)
  | int i => exact .base (.int i)
  | str x => exact .base (.str x)
  | lst q _ =>
    rcases q with (q | ⟨o, q⟩) | ⟨o, its, n, h1, h2, _⟩
    · exact .base (.lst q)
    · exact .base (.frz q)
    · exact .kList h1 h2
  | tup q _ =>
    rcases q with (q | ⟨o, q⟩) | ⟨o, its, n, h1, h2, _⟩
    · exact .base (.tup q)
    · exact .fTuple q
    · exact .kTuple h1 h2
def isInt : PyData → Bool
  | .int _ => true
  | .bool _ => true
  | _ => false
def isBool : PyData → Bool
  | .bool _ => true
  | _ => false
def isStr : PyData → Bool
  | .str _ => true
  | _ => false
def isTup : PyData → Bool
  | .tuple _ => true
  | _ => false
def isLst : PyData → Bool
  | .list _ => true
  | _ => false
theorem kit_int (d : PyData) : kitB (tyN d) "int" = some (isInt d) := by cases d <;> kernel_rfl
theorem kit_bool (d : PyData) : kitB (tyN d) "bool" = some (isBool d) := by cases d <;> kernel_rfl
theorem kit_str (d : PyData) : kitB (tyN d) "str" = some (isStr d) := by cases d <;> kernel_rfl
theorem kit_tup (d : PyData) : kitB (tyN d) "tuple" = some (isTup d) := by cases d <;> kernel_rfl
theorem kit_lst (d : PyData) : kitB (tyN d) "list" = some (isLst d) := by cases d <;> kernel_rfl
theorem isi_d {K : PySem.W.Frag} {H : Hp} {v : V} {d : PyData} {n : String} {b : Bool} (h : Dp K H v d) (k : kitB (tyN d) n = some b) : Evl.RC (rIsi K) [v, .ty n] H (.bl b) := fun H1 e Q q =>
  ⟨v, .ty n, _, _, b, rfl, .ty n, dp_ty (dp_mono e h), kit_ty k, q H1 (Evl.Ex.refl H1)⟩
end Nt

namespace Nt
open PySem PySem.Spec PyProof.Rows L2 Evl
/-! ### values: more of Evl -/
section
variable {K : PySem.W.Frag} {σ : L2.St} {H H' : Hp} {ta tb tc te : TE} {x y z v : V} {r r' : R2}
theorem ev_chain {k1 k2 : Bool} (ha : Ev ta σ H x) (hb : Ev tb σ H y) (h1 : RV r x y H (.bl k1)) (hc : k1 = true → Ev tc σ H z) (h2 : k1 = true → RV r' y z H (.bl k2)) : Ev (tChain r r' ta tb tc) σ H (.bl (k1 && k2)) := fun H0 e Q q =>
  ha H0 e _ fun H1 e1 => hb H1 (e.trans e1) _ fun H2 e2 => h1 H2 ((e.trans e1).trans e2) _ fun H3 e3 => ⟨k1, rfl, by
    cases k1 with
    | true =>
      rw [if_pos rfl]
      refine hc rfl H3 (((e.trans e1).trans e2).trans e3) _ fun H4 e4 => ?_
      exact h2 rfl H4 ((((e.trans e1).trans e2).trans e3).trans e4) _ fun H5 e5 => q H5 (e1.trans (e2.trans (e3.trans (e4.trans e5))))
    | false =>
      rw [if_neg Bool.false_ne_true]
      exact q H3 (e1.trans (e2.trans e3))⟩
theorem rv_le {i j : Int} : RV (rI0 fun i j => .bl (decide (i ≤ j))) (.int i) (.int j) H (.bl (decide (i ≤ j))) := rv_I0
theorem rv_lt {i j : Int} : RV (rI0 fun i j => .bl (decide (i < j))) (.int i) (.int j) H (.bl (decide (i < j))) := rv_I0
theorem rv_gt {i j : Int} : RV (rI0 fun i j => .bl (decide (j < i))) (.int i) (.int j) H (.bl (decide (j < i))) := rv_I0
theorem rv_inTab {d : Addr} {kvs : List (Str × V)} {s : Str} : RV (rInTab d kvs) (.str s) (.ref d) H (.bl (kvs.lookup s).isSome) := fun H1 _ _ q => ⟨s, rfl, rfl, q H1 (Ex.refl H1)⟩
theorem rv_niTab {d : Addr} {kvs : List (Str × V)} {s : Str} : RV (rNiTab d kvs) (.str s) (.ref d) H (.bl (!(kvs.lookup s).isSome)) := fun H1 _ _ q => ⟨s, rfl, rfl, q H1 (Ex.refl H1)⟩
theorem rv_ixTab {d : Addr} {kvs : List (Str × V)} {s : Str} (h : kvs.lookup s = some v) : RV (rIxTab d kvs) (.ref d) (.str s) H v := fun H1 _ _ q => ⟨s, v, rfl, rfl, h, q H1 (Ex.refl H1)⟩
theorem rc_lenL {a : Addr} {xs : List V} (h : SqL K H a xs) : RC (rLenS K) [.ref a] H (.int xs.length) := fun H1 e _ q => ⟨a, xs, rfl, .inl (ex_l e h), q H1 (Ex.refl H1)⟩
theorem rc_lenT {a : Addr} {xs : List V} (h : SqT K H a xs) : RC (rLenS K) [.ref a] H (.int xs.length) := fun H1 e _ q => ⟨a, xs, rfl, .inr (ex_t e h), q H1 (Ex.refl H1)⟩
theorem rc_sum {a : Addr} {ns : List Int} (h : SqL K H a (ns.map V.int)) : RC (rSum K) [.ref a] H (.int ns.sum) := fun H1 e _ q => ⟨a, ns, rfl, ex_l e h, q H1 (Ex.refl H1)⟩
theorem rv_notN : RV (fun x y H Q => y = .non ∧ Q (.bl (!decide (x = .non))) H) v .non H (.bl (!decide (v = .non))) := fun H1 _ _ q => ⟨rfl, q H1 (Ex.refl H1)⟩
theorem rv_isN : RV (fun x y H Q => y = .non ∧ Q (.bl (decide (x = .non))) H) v .non H (.bl (decide (v = .non))) := fun H1 _ _ q => ⟨rfl, q H1 (Ex.refl H1)⟩
/-- a comprehension without a test, its items known one by one -/
theorem el_mapL {a : Addr} {xs ys : List V} {tl : TE} {j : Nat} {vs : List Nat} (h : Ev tl σ H (.ref a)) (hx : SqL K H a xs) (hl : ys.length = xs.length) (hz : xs.length ≤ 40000) (hw : ∀ x, wipe ((wipe σ vs).set j (some x)) vs = wipe σ vs)
    (he : ∀ (i : Nat) (x y : V) H1, Ex H H1 → xs[i]? = some x → ys[i]? = some y → Ev te ((wipe σ vs).set j (some x)) H1 y) :
    EvL (tLc (iList K tl) (gName j) tYes te vs) σ H ys := fun H0 e Q q => h H0 e _ fun H1 e1 => ⟨a, rfl, ⟨xs, ex_l (e.trans e1) hx⟩, fun Dl hD =>
  lc_list (xs := xs) (fun i H' => H1 Dl = none ∧ Ex H1 H' ∧ H' Dl = some (.lst (ys.take i))) ⟨hD, Ex.new hD, upd_same⟩ (fun i H' _ p => ex_l ((e.trans e1).trans p.2.1) hx) (fun i x H' hi p => ⟨hw x, by
      obtain ⟨p1, p2, p3⟩ := p
      have hlt : i < xs.length := (List.getElem?_eq_some_iff.mp hi).1
      obtain ⟨y, hy⟩ : ∃ y, ys[i]? = some y := ⟨ys[i], List.getElem?_eq_getElem (by omega)⟩
      dsimp only [tYes]
      rw [if_pos rfl]
      refine he i x y H' ((e.trans e1).trans p2) hi hy H' (Ex.refl _) _ fun H2 e2 => ⟨ys.take i, e2 _ _ p3, sz_lt (by rw [List.length_take]; omega), p1, Ex.mut (p2.trans e2) p1, ?_⟩
      rw [upd_same, List.take_add_one, hy]
      rfl⟩)
    (fun H' p => q Dl H' (fresh_back e1 p.1) (e1.trans p.2.1) (by rw [p.2.2, ← hl, List.take_length]))⟩
theorem el_mapT {a : Addr} {xs ys : List V} {tl : TE} {j : Nat} {vs : List Nat} (h : Ev tl σ H (.ref a)) (hx : SqT K H a xs) (hl : ys.length = xs.length) (hz : xs.length ≤ 40000) (hw : ∀ x, wipe ((wipe σ vs).set j (some x)) vs = wipe σ vs)
    (he : ∀ (i : Nat) (x y : V) H1, Ex H H1 → xs[i]? = some x → ys[i]? = some y → Ev te ((wipe σ vs).set j (some x)) H1 y) :
    EvL (tLc (iTup K tl) (gName j) tYes te vs) σ H ys := fun H0 e Q q => h H0 e _ fun H1 e1 => ⟨a, rfl, ⟨xs, ex_t (e.trans e1) hx⟩, fun Dl hD =>
  lc_tup (xs := xs) (fun i H' => H1 Dl = none ∧ Ex H1 H' ∧ H' Dl = some (.lst (ys.take i))) ⟨hD, Ex.new hD, upd_same⟩ (fun i H' _ p => ex_t ((e.trans e1).trans p.2.1) hx) (fun i x H' hi p => ⟨hw x, by
      obtain ⟨p1, p2, p3⟩ := p
      have hlt : i < xs.length := (List.getElem?_eq_some_iff.mp hi).1
      obtain ⟨y, hy⟩ : ∃ y, ys[i]? = some y := ⟨ys[i], List.getElem?_eq_getElem (by omega)⟩
      dsimp only [tYes]
      rw [if_pos rfl]
      refine he i x y H' ((e.trans e1).trans p2) hi hy H' (Ex.refl _) _ fun H2 e2 => ⟨ys.take i, e2 _ _ p3, sz_lt (by rw [List.length_take]; omega), p1, Ex.mut (p2.trans e2) p1, ?_⟩
      rw [upd_same, List.take_add_one, hy]
      rfl⟩)
    (fun H' p => q Dl H' (fresh_back e1 p.1) (e1.trans p.2.1) (by rw [p.2.2, ← hl, List.take_length]))⟩
end
/-! calls by their promise, arguments pure -/
section
variable {σ : L2.St} {H : Hp} {D : Ends} {tz : TS} {sp : Sp} {dvs vs : List V} {E : XK} {ta : TA} {Q : VK}
theorem c_call (ha : EvA ta σ H vs) (k : ∀ H1, Ex H H1 → sp (vs ++ dvs) H1 Q E) : tCall sp dvs E ta σ H Q := ha H (Ex.refl H) _ k
theorem c_asg {i : Nat} (ha : EvA ta σ H vs) (k : ∀ H1, Ex H H1 → sp (vs ++ dvs) H1 (fun v H2 => tz D (σ.set i (some v)) H2) E) : tSeq (tAsg (tCall sp dvs E ta) (gName i)) tz D σ H := ha H (Ex.refl H) _ k
theorem c_ret (ha : EvA ta σ H vs) (k : ∀ H1, Ex H H1 → sp (vs ++ dvs) H1 D.rt E) : tRet (tCall sp dvs E ta) D σ H := ha H (Ex.refl H) _ k
end
/-! ### promises by values -/
def sp1 (K : PySem.W.Frag) (f : PyData → V) : Sp := fun vs H Q _ => ∃ v d, vs = [v] ∧ Dp K H v d ∧ ∀ H', Same H H' → Q (f d) H'
theorem spv1 {K : PySem.W.Frag} {f : PyData → V} {v : V} {d : PyData} {H : Hp} (h : Dp K H v d) : SpV (sp1 K f) [v] H (f d) := fun H1 e Q q E => ⟨v, d, rfl, dp_mono e h, fun H' e' => q H' e'⟩
/-- a promise that nothing asks -/
theorem Def.idle {P : Program} {w : World} {K : PySem.W.Frag} {mg : Str → Option Value} {base : Heap} {CX : CXT} {x qual : Str} {params : Arguments} {body : List Stmt} {scope : Scope} {ps : List Str} {f : Addr} (k : Nat)
    (F : ∃ fd, FunD K x qual params body scope [] [] f fd) (g : mg x = some (.ref f))
    (hb : ∀ (kV doc pm : Value) (an : Option Addr) (cdv ct : Value) (us : List Value), us.length = ps.length → bindArgs (PySem.W.fnOf x qual params body scope .none kV doc pm an cdv ct) ⟨us, []⟩ = pure (ps.zip us)) :
    Def P w K mg base CX k x ps (fun _ _ _ _ => False) := by
  obtain ⟨fd, F⟩ := F
  exact ⟨f, fd, g, F.kp, F.bindsN hb, ⟨fun _ _ _ _ h => h.elim, fun _ _ _ _ _ _ _ _ _ _ _ _ _ h => h.elim⟩⟩
end Nt

namespace Nt
open PySem PySem.Spec PyProof.Rows L2 Evl
/-! ### evaluation while some tracked lists change: M the changing addresses, J what stays true of them -/
structure Wd where
  M : Addr → Bool
  J : Hp → Prop
  live : ∀ H a, J H → M a = true → H a ≠ none
  loc : ∀ H H', J H → (∀ a, M a = true → H' a = H a) → J H'
/-- without the changing ones -/
def Wd.wo (W : Wd) (H : Hp) : Hp := fun a => if W.M a = true then none else H a
theorem Wd.wo_same (W : Wd) (H : Hp) : Same (W.wo H) H := fun a o h => by
  unfold Wd.wo at h
  split at h
  · cases h
  · exact h
/-- a later heap -/
structure Wd.Le (W : Wd) (H H' : Hp) : Prop where
  s : Same (W.wo H) (W.wo H')
  j : W.J H'
theorem Wd.Le.refl {W : Wd} {H : Hp} (h : W.J H) : W.Le H H := ⟨Same.refl _, h⟩
theorem Wd.Le.trans {W : Wd} {H H1 H2 : Hp} (a : W.Le H H1) (b : W.Le H1 H2) : W.Le H H2 := ⟨a.s.trans b.s, b.j⟩
/-- what a def without changes leaves -/
theorem Wd.Le.of_same {W : Wd} {H H' : Hp} (j : W.J H) (s : Same H H') : W.Le H H' := by
  have hm : ∀ a, W.M a = true → H' a = H a := fun a ha => by
    cases q : H a with
    | none => exact absurd q (W.live H a j ha)
    | some o => exact s a o q
  refine ⟨fun a o h => ?_, W.loc H H' j hm⟩
  unfold Wd.wo at h ⊢
  split at h
  · cases h
  · rename_i hn
    rw [if_neg hn]
    exact s a o h
theorem Wd.Le.new {W : Wd} {H : Hp} {p : Addr} {o : HO} (j : W.J H) (h : H p = none) : W.Le H (upd H p o) := .of_same j (Same.new h)
theorem Wd.notM {W : Wd} {H : Hp} {p : Addr} (j : W.J H) (h : H p = none) : W.M p = false := by
  cases q : W.M p with
  | false => rfl
  | true => exact absurd h (W.live H p j q)
theorem Wd.wo_at {W : Wd} {H : Hp} {p : Addr} {o : HO} (hm : W.M p = false) (h : H p = some o) : W.wo H p = some o := by
  unfold Wd.wo
  rw [if_neg (by rw [hm]; exact Bool.false_ne_true)]
  exact h
theorem Wd.dp {W : Wd} {K : PySem.W.Frag} {H : Hp} {v : V} {d : PyData} (h : Dp K (W.wo H) v d) : Dp K H v d := dp_mono (W.wo_same H) h
theorem Wd.Le.dp {W : Wd} {K : PySem.W.Frag} {H H' : Hp} {v : V} {d : PyData} (e : W.Le H H') (h : Dp K (W.wo H) v d) : Dp K (W.wo H') v d := dp_mono e.s h
theorem Wd.Le.dpAll {W : Wd} {K : PySem.W.Frag} {H H' : Hp} {v : List V} {d : List PyData} (e : W.Le H H') (h : DpAll K (W.wo H) v d) : DpAll K (W.wo H') v d := dpAll_mono e.s h

/-- te evaluates to a datum of P -/
def Em (W : Wd) (K : PySem.W.Frag) (te : TE) (σ : L2.St) (H : Hp) (P : PyData → Prop) : Prop := ∀ H1, W.Le H H1 → ∀ Q : VK, (∀ v d H2, W.Le H1 H2 → Dp K (W.wo H2) v d → P d → Q v H2) → te σ H1 Q
def EmA (W : Wd) (K : PySem.W.Frag) (ta : TA) (σ : L2.St) (H : Hp) (P : List PyData → Prop) : Prop := ∀ H1, W.Le H H1 → ∀ Q : List V → Hp → Prop, (∀ vs ds H2, W.Le H1 H2 → DpAll K (W.wo H2) vs ds → P ds → Q vs H2) → ta σ H1 Q
def EmT (W : Wd) (tt : TT) (σ : L2.St) (H : Hp) (P : Bool → Prop) : Prop := ∀ H1, W.Le H H1 → ∀ Q : Bool → Hp → Prop, (∀ b H2, W.Le H1 H2 → P b → Q b H2) → tt σ H1 Q
/-- an int of P, a text of P, a truth of P -/
def IsI (P : Int → Prop) (d : PyData) : Prop := ∃ i, d = .int i ∧ P i
def IsS (P : Str → Prop) (d : PyData) : Prop := ∃ s, d = .str s ∧ P s
def IsB (P : Bool → Prop) (d : PyData) : Prop := ∃ b, d = .bool b ∧ P b
def IsLs (P : List PyData → Prop) (d : PyData) : Prop := ∃ ds, d = .list ds ∧ P ds
def IsTp (P : List PyData → Prop) (d : PyData) : Prop := ∃ ds, d = .tuple ds ∧ P ds
section
variable {W : Wd} {K : PySem.W.Frag} {σ : L2.St} {H H' : Hp} {te ta tb tc : TE} {P P1 P2 P3 : PyData → Prop} {t u : TT} {D : Ends} {tu tw tz : TS}
theorem dpI {v : V} {i : Int} (h : Dp K H v (.int i)) : v = .int i := by cases h; rfl
theorem dpS {v : V} {s : Str} (h : Dp K H v (.str s)) : v = .str s := by cases h; rfl
theorem dpB {v : V} {b : Bool} (h : Dp K H v (.bool b)) : v = .bl b := by cases h; rfl
theorem dpN {v : V} (h : Dp K H v .none) : v = .non := by cases h; rfl
theorem dpT {v : V} {ds : List PyData} (h : Dp K H v (.tuple ds)) : ∃ a xs, v = .ref a ∧ SqT K H a xs ∧ DpAll K H xs ds := by
  cases h with
  | tup h1 h2 => exact ⟨_, _, rfl, h1, h2⟩
theorem dpL {v : V} {ds : List PyData} (h : Dp K H v (.list ds)) : ∃ a xs, v = .ref a ∧ SqL K H a xs ∧ DpAll K H xs ds := by
  cases h with
  | lst h1 h2 => exact ⟨_, _, rfl, h1, h2⟩
theorem Em.mono (e : W.Le H H') (h : Em W K te σ H P) : Em W K te σ H' P := fun H1 a Q q => h H1 (e.trans a) Q q
theorem Em.imp (h : Em W K te σ H P) (i : ∀ d, P d → P1 d) : Em W K te σ H P1 := fun H1 a Q q => h H1 a Q fun v d H2 e hd p => q v d H2 e hd (i d p)
theorem EmT.imp {P P1 : Bool → Prop} (h : EmT W t σ H P) (i : ∀ d, P d → P1 d) : EmT W t σ H P1 := fun H1 a Q q => h H1 a Q fun b H2 e p => q b H2 e (i b p)
theorem EmA.imp {ta : TA} {P P1 : List PyData → Prop} (h : EmA W K ta σ H P) (i : ∀ d, P d → P1 d) : EmA W K ta σ H P1 := fun H1 a Q q => h H1 a Q fun v d H2 e hd p => q v d H2 e hd (i d p)
theorem em_var {i : Nat} {v : V} {d : PyData} (h : σ[i]? = some (some v)) (hd : Dp K (W.wo H) v d) (p : P d) : Em W K (tVar i) σ H P := fun H1 e _ q => ⟨v, h, q v d H1 (.refl e.j) (e.dp hd) p⟩
theorem em_int {i : Int} (p : P (.int i)) : Em W K (tC (.int i)) σ H P := fun H1 e _ q => q _ _ H1 (.refl e.j) (.int i) p
theorem em_str {s : Str} (p : P (.str s)) : Em W K (tC (.str s)) σ H P := fun H1 e _ q => q _ _ H1 (.refl e.j) (.str s) p
theorem em_bl {b : Bool} (p : P (.bool b)) : Em W K (tC (.bl b)) σ H P := fun H1 e _ q => q _ _ H1 (.refl e.j) (.bl b) p
theorem em_non (p : P .none) : Em W K (tC .non) σ H P := fun H1 e _ q => q _ _ H1 (.refl e.j) .non p
/-- what evaluates purely -/
theorem em_of {v : V} {d : PyData} (h : ∀ H1, W.Le H H1 → Ev te σ H1 v) (hd : ∀ H1, W.Le H H1 → Dp K (W.wo H1) v d) (p : P d) : Em W K te σ H P := fun H1 e Q q =>
  h H1 e H1 (Ex.refl _) Q fun H2 e2 => q v d H2 (.of_same e.j e2) (hd H2 (e.trans (.of_same e.j e2))) p
theorem em_op {r : R2} (ha : Em W K ta σ H P1) (hb : Em W K tb σ H P2) (hr : ∀ x y dx dy H1, W.Le H H1 → Dp K (W.wo H1) x dx → P1 dx → Dp K (W.wo H1) y dy → P2 dy → ∀ Q : VK, (∀ v d H2, W.Le H1 H2 → Dp K (W.wo H2) v d → P d → Q v H2) → r x y H1 Q) : Em W K (tOp r ta tb) σ H P := fun H1 e Q q =>
  ha H1 e _ fun x dx H2 e2 hx px => hb H2 (e.trans e2) _ fun y dy H3 e3 hy py => hr x y dx dy H3 (e.trans (e2.trans e3)) (e3.dp hx) px hy py Q fun v d H4 e4 hv pv => q v d H4 (e2.trans (e3.trans e4)) hv pv
theorem em_opI {C : Int → Int → Prop} {g : Int → Int → Int} {P1 P2 P : Int → Prop} (ha : Em W K ta σ H (IsI P1)) (hb : Em W K tb σ H (IsI P2)) (hc : ∀ i j, P1 i → P2 j → C i j ∧ P (g i j)) : Em W K (tOp (rI C fun i j => .int (g i j)) ta tb) σ H (IsI P) :=
  em_op ha hb fun x y dx dy H1 e hx px hy py Q q => by
    obtain ⟨i, rfl, p1⟩ := px
    obtain ⟨j, rfl, p2⟩ := py
    cases dpI hx
    cases dpI hy
    exact ⟨i, j, rfl, rfl, (hc i j p1 p2).1, q _ _ H1 (.refl e.j) (.int _) ⟨_, rfl, (hc i j p1 p2).2⟩⟩
theorem em_opI0 {g : Int → Int → Int} {P1 P2 P : Int → Prop} (ha : Em W K ta σ H (IsI P1)) (hb : Em W K tb σ H (IsI P2)) (hc : ∀ i j, P1 i → P2 j → P (g i j)) : Em W K (tOp (rI0 fun i j => .int (g i j)) ta tb) σ H (IsI P) :=
  em_op ha hb fun x y dx dy H1 e hx px hy py Q q => by
    obtain ⟨i, rfl, p1⟩ := px
    obtain ⟨j, rfl, p2⟩ := py
    cases dpI hx
    cases dpI hy
    exact ⟨i, j, rfl, rfl, q _ _ H1 (.refl e.j) (.int _) ⟨_, rfl, hc i j p1 p2⟩⟩
theorem em_cmpI {g : Int → Int → Bool} {P1 P2 : Int → Prop} {P : Bool → Prop} (ha : Em W K ta σ H (IsI P1)) (hb : Em W K tb σ H (IsI P2)) (hc : ∀ i j, P1 i → P2 j → P (g i j)) : Em W K (tOp (rI0 fun i j => .bl (g i j)) ta tb) σ H (IsB P) :=
  em_op ha hb fun x y dx dy H1 e hx px hy py Q q => by
    obtain ⟨i, rfl, p1⟩ := px
    obtain ⟨j, rfl, p2⟩ := py
    cases dpI hx
    cases dpI hy
    exact ⟨i, j, rfl, rfl, q _ _ H1 (.refl e.j) (.bl _) ⟨_, rfl, hc i j p1 p2⟩⟩
theorem dec_intV (i j : Int) : decide (V.int i = V.int j) = decide (i = j) := by
  by_cases h : i = j
  · subst h; simp
  · rw [decide_eq_false h, decide_eq_false]
    intro q; injection q with q; exact h q
theorem dec_strV (i j : Str) : decide (V.str i = V.str j) = decide (i = j) := by
  by_cases h : i = j
  · subst h; simp
  · rw [decide_eq_false h, decide_eq_false]
    intro q; injection q with q; exact h q
theorem em_eqI {P1 P2 : Int → Prop} {P : Bool → Prop} (ha : Em W K ta σ H (IsI P1)) (hb : Em W K tb σ H (IsI P2)) (hc : ∀ i j, P1 i → P2 j → P (decide (i = j))) : Em W K (tOp rEq ta tb) σ H (IsB P) :=
  em_op ha hb fun x y dx dy H1 e hx px hy py Q q => by
    obtain ⟨i, rfl, p1⟩ := px
    obtain ⟨j, rfl, p2⟩ := py
    cases dpI hx
    cases dpI hy
    exact ⟨rfl, q _ _ H1 (.refl e.j) (.bl _) ⟨_, rfl, by rw [dec_intV]; exact hc i j p1 p2⟩⟩
theorem em_neI {P1 P2 : Int → Prop} {P : Bool → Prop} (ha : Em W K ta σ H (IsI P1)) (hb : Em W K tb σ H (IsI P2)) (hc : ∀ i j, P1 i → P2 j → P (!decide (i = j))) : Em W K (tOp rNe ta tb) σ H (IsB P) :=
  em_op ha hb fun x y dx dy H1 e hx px hy py Q q => by
    obtain ⟨i, rfl, p1⟩ := px
    obtain ⟨j, rfl, p2⟩ := py
    cases dpI hx
    cases dpI hy
    exact ⟨rfl, q _ _ H1 (.refl e.j) (.bl _) ⟨_, rfl, by rw [dec_intV]; exact hc i j p1 p2⟩⟩
theorem em_eqS {P1 P2 : Str → Prop} {P : Bool → Prop} (ha : Em W K ta σ H (IsS P1)) (hb : Em W K tb σ H (IsS P2)) (hc : ∀ i j, P1 i → P2 j → P (decide (i = j))) : Em W K (tOp rEq ta tb) σ H (IsB P) :=
  em_op ha hb fun x y dx dy H1 e hx px hy py Q q => by
    obtain ⟨i, rfl, p1⟩ := px
    obtain ⟨j, rfl, p2⟩ := py
    cases dpS hx
    cases dpS hy
    exact ⟨rfl, q _ _ H1 (.refl e.j) (.bl _) ⟨_, rfl, by rw [dec_strV]; exact hc i j p1 p2⟩⟩
theorem em_neB {P1 P2 : Bool → Prop} {P : Bool → Prop} (ha : Em W K ta σ H (IsB P1)) (hb : Em W K tb σ H (IsB P2)) (hc : ∀ i j, P1 i → P2 j → P (!decide (i = j))) : Em W K (tOp rNe ta tb) σ H (IsB P) :=
  em_op ha hb fun x y dx dy H1 e hx px hy py Q q => by
    obtain ⟨i, rfl, p1⟩ := px
    obtain ⟨j, rfl, p2⟩ := py
    cases dpB hx
    cases dpB hy
    have eq : decide (V.bl i = V.bl j) = decide (i = j) := by cases i <;> cases j <;> rfl
    exact ⟨rfl, q _ _ H1 (.refl e.j) (.bl _) ⟨_, rfl, by rw [eq]; exact hc i j p1 p2⟩⟩
theorem ema_nil {P : List PyData → Prop} (p : P []) : EmA W K tNil σ H P := fun H1 e _ q => q _ _ H1 (.refl e.j) .nil p
theorem ema_cons {tr : TA} {P : List PyData → Prop} (h : Em W K te σ H P1) (hr : ∀ d, P1 d → EmA W K tr σ H fun ds => P (d :: ds)) : EmA W K (tCons te tr) σ H P := fun H1 e _ q =>
  h H1 e _ fun v d H2 e2 hd p => hr d p H2 (e.trans e2) _ fun vs ds H3 e3 hds ps => q (v :: vs) (d :: ds) H3 (e2.trans e3) (.cons (e3.dp hd) hds) ps
theorem em_tup {ta : TA} (h : EmA W K ta σ H fun ds => ds.length ≤ 20000 ∧ P (.tuple ds)) : Em W K (tTup ta) σ H P := fun H1 e _ q => h H1 e _ fun vs ds H2 e2 hds p =>
  ⟨sz_of (by rw [dpAll_len hds]; omega), fun a ha => q (.ref a) (.tuple ds) (upd H2 a (.tup vs)) (e2.trans (.new e2.j ha)) (.tup (st_of (Wd.wo_at (Wd.notM e2.j ha) upd_same)) ((Wd.Le.new e2.j ha).dpAll hds)) p.2⟩
theorem em_lst {ta : TA} (h : EmA W K ta σ H fun ds => ds.length ≤ 20000 ∧ P (.list ds)) : Em W K (tLst ta) σ H P := fun H1 e _ q => h H1 e _ fun vs ds H2 e2 hds p =>
  ⟨sz_of (by rw [dpAll_len hds]; omega), fun a ha => q (.ref a) (.list ds) (upd H2 a (.lst vs)) (e2.trans (.new e2.j ha)) (.lst (sq_of (Wd.wo_at (Wd.notM e2.j ha) upd_same)) ((Wd.Le.new e2.j ha).dpAll hds)) p.2⟩
theorem sqL_wo {a : Addr} {xs : List V} (h : SqL K (W.wo H) a xs) : SqL K H a xs := Same.seq (W.wo_same H) h
theorem sqT_wo {a : Addr} {xs : List V} (h : SqT K (W.wo H) a xs) : SqT K H a xs := Same.seqT (W.wo_same H) h
theorem dp_atI {vs : List V} {ds : List PyData} {i : Int} {d : PyData} (h : DpAll K H vs ds) (e : atI ds i = some d) : ∃ v, atI vs i = some v ∧ Dp K H v d := by
  unfold atI at e ⊢
  rw [dpAll_len h]
  cases q : ixN ds.length i with
  | none => rw [q] at e; cases e
  | some j =>
    rw [q] at e
    exact dpAll_get' h e
/-- xs[i] of a list that the expression makes or names -/
theorem em_ixL {P1 : List PyData → Prop} {P2 : Int → Prop} (ha : Em W K ta σ H (IsLs P1)) (hb : Em W K tb σ H (IsI P2)) (hc : ∀ ds i, P1 ds → P2 i → ∃ d, atI ds i = some d ∧ P d) : Em W K (tOp (rIxL K) ta tb) σ H P :=
  em_op ha hb fun x y dx dy H1 e hx px hy py Q q => by
    obtain ⟨ds, rfl, p1⟩ := px
    obtain ⟨i, rfl, p2⟩ := py
    obtain ⟨a, xs, rfl, hs, hds⟩ := dpL hx
    cases dpI hy
    obtain ⟨d, hd, p⟩ := hc ds i p1 p2
    obtain ⟨v, hv, hdv⟩ := dp_atI hds hd
    exact ⟨a, xs, i, v, rfl, rfl, sqL_wo hs, hv, q v d H1 (.refl e.j) hdv p⟩
theorem em_ixT {P1 : List PyData → Prop} {P2 : Int → Prop} (ha : Em W K ta σ H (IsTp P1)) (hb : Em W K tb σ H (IsI P2)) (hc : ∀ ds i, P1 ds → P2 i → ∃ d, atI ds i = some d ∧ P d) : Em W K (tOp (rIxT K) ta tb) σ H P :=
  em_op ha hb fun x y dx dy H1 e hx px hy py Q q => by
    obtain ⟨ds, rfl, p1⟩ := px
    obtain ⟨i, rfl, p2⟩ := py
    obtain ⟨a, xs, rfl, hs, hds⟩ := dpT hx
    cases dpI hy
    obtain ⟨d, hd, p⟩ := hc ds i p1 p2
    obtain ⟨v, hv, hdv⟩ := dp_atI hds hd
    exact ⟨a, xs, i, v, rfl, rfl, sqT_wo hs, hv, q v d H1 (.refl e.j) hdv p⟩
/-- 'ab'[i] -/
theorem em_ixS {P1 : Str → Prop} {P2 : Int → Prop} {P : Str → Prop} (ha : Em W K ta σ H (IsS P1)) (hb : Em W K tb σ H (IsI P2)) (hc : ∀ s i, P1 s → P2 i → ∃ c, s.length ≤ 20000 ∧ atI s.cps.toList i = some c ∧ P ⟨#[c]⟩) : Em W K (tOp rIxS ta tb) σ H (IsS P) :=
  em_op ha hb fun x y dx dy H1 e hx px hy py Q q => by
    obtain ⟨s, rfl, p1⟩ := px
    obtain ⟨i, rfl, p2⟩ := py
    cases dpS hx
    cases dpI hy
    obtain ⟨c, hl, hc, p⟩ := hc s i p1 p2
    exact ⟨s, i, c, rfl, rfl, sz_of (by omega), hc, q _ _ H1 (.refl e.j) (.str _) ⟨_, rfl, p⟩⟩
/-- tests -/
theorem emt_test {P : Bool → Prop} (h : Em W K te σ H (IsB P)) : EmT W (tTest te) σ H P := fun H1 e Q q => h H1 e _ fun v d H2 e2 hd p => by
  obtain ⟨b, rfl, pb⟩ := p
  cases dpB hd
  exact ⟨b, rfl, q b H2 e2 pb⟩
theorem emt_B {P : Bool → Prop} (h : Em W K te σ H (IsB P)) : EmT W (tB te) σ H P := fun H1 e Q q => h H1 e _ fun v d H2 e2 hd p => by
  obtain ⟨b, rfl, pb⟩ := p
  cases dpB hd
  exact ⟨b, rfl, q b H2 e2 pb⟩
theorem emt_not {P : Bool → Prop} (h : EmT W t σ H fun b => P (!b)) : EmT W (tNot t) σ H P := fun H1 e _ q => h H1 e _ fun b H2 e2 p => q (!b) H2 e2 p
theorem emt_and {P1 P : Bool → Prop} (h1 : EmT W t σ H P1) (h2 : P1 true → EmT W u σ H P) (h3 : P1 false → P false) : EmT W (tAnd t u) σ H P := fun H1 e Q q => h1 H1 e _ fun b H2 e2 p => by
  cases b with
  | true =>
    refine iteT (h2 p H2 (e.trans e2) Q fun b H3 e3 p3 => q b H3 (e2.trans e3) p3)
  | false => exact iteF (q false H2 e2 (h3 p))
theorem emt_or {P1 P : Bool → Prop} (h1 : EmT W t σ H P1) (h2 : P1 false → EmT W u σ H P) (h3 : P1 true → P true) : EmT W (tOr t u) σ H P := fun H1 e Q q => h1 H1 e _ fun b H2 e2 p => by
  cases b with
  | true => exact iteT (q true H2 e2 (h3 p))
  | false => exact iteF (h2 p H2 (e.trans e2) Q fun b H3 e3 p3 => q b H3 (e2.trans e3) p3)
theorem em_if {P1 : Bool → Prop} (h : EmT W t σ H P1) (h1 : P1 true → Em W K ta σ H P) (h2 : P1 false → Em W K tb σ H P) : Em W K (tIf t ta tb) σ H P := fun H1 e Q q => h H1 e _ fun b H2 e2 p => by
  cases b with
  | true => exact iteT (h1 p H2 (e.trans e2) Q fun v d H3 e3 hd p3 => q v d H3 (e2.trans e3) hd p3)
  | false => exact iteF (h2 p H2 (e.trans e2) Q fun v d H3 e3 hd p3 => q v d H3 (e2.trans e3) hd p3)
theorem em_andV {P1 P : Bool → Prop} (h1 : Em W K ta σ H (IsB P1)) (h2 : P1 true → Em W K tb σ H (IsB P)) (h3 : P1 false → P false) : Em W K (tAndV ta tb) σ H (IsB P) := fun H1 e Q q => h1 H1 e _ fun v d H2 e2 hd p => by
  obtain ⟨b, rfl, pb⟩ := p
  cases dpB hd
  refine ⟨b, rfl, ?_⟩
  cases b with
  | true => exact iteT (h2 pb H2 (e.trans e2) Q fun v d H3 e3 hd p3 => q v d H3 (e2.trans e3) hd p3)
  | false => exact iteF (q _ _ H2 e2 (.bl false) ⟨false, rfl, h3 pb⟩)
/-- statements -/
theorem m_asg {i : Nat} (j : W.J H) (h : Em W K te σ H P) (k : ∀ v d H1, W.Le H H1 → Dp K (W.wo H1) v d → P d → tz D (σ.set i (some v)) H1) : tSeq (tAsg te (gName i)) tz D σ H := h H (.refl j) _ fun v d H1 e hd p => k v d H1 e hd p
theorem m_set {i : Nat} (j : W.J H) (h : Em W K te σ H P) (k : ∀ v d H1, W.Le H H1 → Dp K (W.wo H1) v d → P d → D.nx (σ.set i (some v)) H1) : tAsg te (gName i) D σ H := h H (.refl j) _ fun v d H1 e hd p => k v d H1 e hd p
theorem m_ret (j : W.J H) (h : Em W K te σ H P) (k : ∀ v d H1, W.Le H H1 → Dp K (W.wo H1) v d → P d → D.rt v H1) : tRet te D σ H := h H (.refl j) _ fun v d H1 e hd p => k v d H1 e hd p
theorem m_if {P : Bool → Prop} (j : W.J H) (h : EmT W t σ H P) (h1 : P true → ∀ H1, W.Le H H1 → tu { D with nx := tz D } σ H1) (h2 : P false → ∀ H1, W.Le H H1 → tw { D with nx := tz D } σ H1) : tSeq (tIfS t tu tw) tz D σ H := h H (.refl j) _ fun b H1 e p => by
  cases b with
  | true => exact iteT (h1 p H1 e)
  | false => exact iteF (h2 p H1 e)
theorem m_when {P : Bool → Prop} (j : W.J H) (h : EmT W t σ H P) (h1 : P true → ∀ H1, W.Le H H1 → tu { D with nx := tz D } σ H1) (h2 : P false → ∀ H1, W.Le H H1 → tz D σ H1) : tSeq (tIfS t tu tNext) tz D σ H := m_if j h h1 h2
theorem m_ifL {P : Bool → Prop} (j : W.J H) (h : EmT W t σ H P) (h1 : P true → ∀ H1, W.Le H H1 → tu D σ H1) (h2 : P false → ∀ H1, W.Le H H1 → tw D σ H1) : tIfS t tu tw D σ H := h H (.refl j) _ fun b H1 e p => by
  cases b with
  | true => exact iteT (h1 p H1 e)
  | false => exact iteF (h2 p H1 e)
end
end Nt
namespace Nt
open PySem PySem.Spec PyProof.Rows L2 Evl
/-! ### one more changing object: at p stands o -/
def Wd.plus (W : Wd) (p : Addr) (o : HO) : Wd where
  M := fun a => W.M a || a == p
  J := fun H => W.J H ∧ H p = some o
  live := fun H a ⟨j, h⟩ e => by
    rcases Bool.or_eq_true_iff.mp e with q | q
    · exact W.live H a j q
    · rw [eq_of_beq q, h]; exact fun z => nomatch z
  loc := fun H H' ⟨j, h⟩ k => ⟨W.loc H H' j fun a ha => k a (by rw [ha]; rfl), by rw [k p (by rw [beq_self_eq_true, Bool.or_true])]; exact h⟩
theorem Wd.plus_wo {W : Wd} {p : Addr} {ob : HO} {H : Hp} {a : Addr} {o : HO} (h : (W.plus p ob).wo H a = some o) : W.wo H a = some o ∧ a ≠ p := by
  unfold Wd.wo Wd.plus at h
  dsimp only at h
  by_cases hm : (W.M a || a == p) = true
  · rw [if_pos hm] at h; cases h
  · rw [if_neg hm] at h
    have h1 : W.M a = false := by
      cases q : W.M a with
      | false => rfl
      | true => rw [q] at hm; exact absurd rfl hm
    have h2 : a ≠ p := fun q => hm (by rw [q, beq_self_eq_true, Bool.or_true])
    refine ⟨?_, h2⟩
    unfold Wd.wo
    rw [if_neg (by rw [h1]; exact Bool.false_ne_true)]
    exact h
theorem Wd.wo_plus {W : Wd} {p : Addr} {ob : HO} {H : Hp} {a : Addr} {o : HO} (h : W.wo H a = some o) (hn : a ≠ p) : (W.plus p ob).wo H a = some o := by
  unfold Wd.wo at h
  by_cases hm : W.M a = true
  · rw [if_pos hm] at h; cases h
  · rw [if_neg hm] at h
    unfold Wd.wo Wd.plus
    dsimp only
    rw [if_neg]
    · exact h
    · intro q
      rcases Bool.or_eq_true_iff.mp q with q | q
      · exact hm q
      · exact hn (eq_of_beq q)
theorem Wd.plus_same {W : Wd} {p : Addr} {ob : HO} {H : Hp} : Same ((W.plus p ob).wo H) (W.wo H) := fun _ _ h => (Wd.plus_wo h).1
theorem Wd.same_plus {W : Wd} {p : Addr} {ob : HO} {H : Hp} (h : H p = none) : Same (W.wo H) ((W.plus p ob).wo H) := fun a u e => by
  refine Wd.wo_plus e fun q => ?_
  rw [q] at e
  have := W.wo_same H p u e
  rw [h] at this; cases this
theorem Wd.wo_upd {W : Wd} {p : Addr} {ob o : HO} {H : Hp} : Same ((W.plus p ob).wo H) ((W.plus p ob).wo (upd H p o)) := fun a u h => by
  obtain ⟨h1, hn⟩ := Wd.plus_wo h
  refine Wd.wo_plus ?_ hn
  unfold Wd.wo at h1 ⊢
  split at h1
  · cases h1
  · rename_i q
    rw [if_neg q, upd_ne hn]
    exact h1
theorem Wd.plus_j {W : Wd} {p : Addr} {H : Hp} {o : HO} (j : W.J H) (hm : W.M p = false) : (W.plus p o).J (upd H p o) := by
  refine ⟨W.loc H _ j fun a ha => ?_, upd_same⟩
  rw [upd_ne]
  intro q
  rw [q, hm] at ha
  cases ha
/-- out of the larger one: p was not there -/
theorem Wd.of_plus {W : Wd} {p : Addr} {ob : HO} {H H2 : Hp} (hp : H p = none) (j : W.J H2) (s : Same ((W.plus p ob).wo H) ((W.plus p ob).wo H2)) : W.Le H H2 :=
  ⟨fun a u h => Wd.plus_same a u (s a u (Wd.same_plus hp a u h)), j⟩
section
variable {W : Wd} {K : PySem.W.Frag} {σ : L2.St} {H H' : Hp} {te ta tb tc : TE} {P P1 P2 P3 : PyData → Prop} {t u : TT} {D : Ends} {tu tw tz : TS}
theorem m_forR {ta : TA} {j : Nat} {Pn : Int → Prop} (jH : W.J H) (h : EmA W K ta σ H fun ds => ∃ n, ds = [.int n] ∧ Pn n) (hn : ∀ n, Pn n → -100000 ≤ n ∧ n ≤ 100000) (Pv : Int → Nat → L2.St → Hp → Prop) (h0 : ∀ n H1, Pn n → W.Le H H1 → Pv n 0 σ H1)
    (hs : ∀ n (i : Nat) σ' H', Pn n → (i : Int) < n → Pv n i σ' H' → tu { D with nx := Pv n (i + 1), ct := Pv n (i + 1), bk := tz D } (σ'.set j (some (.int (i : Int)))) H') (hd : ∀ n σ' H', Pn n → Pv n n.toNat σ' H' → tz D σ' H') : tSeq (tFor (iRng1 ta) (gName j) tu) tz D σ H :=
  h H (.refl jH) _ fun vs ds H1 e hds p => by
    obtain ⟨n, rfl, pn⟩ := p
    obtain ⟨x, rfl⟩ := (show ∃ x, vs = [x] by
      cases hds with
      | cons h1 h2 => cases h2; exact ⟨_, rfl⟩)
    have hx : x = .int n := by
      cases hds with
      | cons h1 h2 => exact dpI h1
    subst hx
    refine ⟨n, rfl, by have := hn n pn; omega, by have := hn n pn; omega, for_range (D := { D with nx := tz D }) (lo := 0) (n := n.toNat) (Pv n) (h0 n H1 pn e) (fun i σ' H' hi p => ?_) fun σ' H' p => hd n σ' H' pn p⟩
    have e0 : (0 : Int) + (i : Int) = (i : Int) := Int.zero_add _
    show tu { D with nx := Pv n (i + 1), ct := Pv n (i + 1), bk := tz D } (σ'.set j (some (.int ((0 : Int) + (i : Int))))) H'
    rw [e0]
    exact hs n i σ' H' pn (by omega) p
/-- [e for j in range(n)], e may draw -/
theorem em_lcR {ta : TA} {j : Nat} {vs : List Nat} {Pn : Int → Prop} {Pe : PyData → Prop} (h : EmA W K ta σ H fun ds => ∃ n, ds = [.int n] ∧ Pn n) (hn : ∀ n, Pn n → -20000 ≤ n ∧ n ≤ 20000) (hw : ∀ x, wipe ((wipe σ vs).set j (some x)) vs = wipe σ vs)
    (he : ∀ n (i : Nat) p acc H1, Pn n → (i : Int) < n → W.M p = false → Same (W.wo H) ((W.plus p (.lst acc)).wo H1) → (W.plus p (.lst acc)).J H1 → Em (W.plus p (.lst acc)) K te ((wipe σ vs).set j (some (.int (i : Int)))) H1 Pe) :
    Em W K (tLc (iRng1 ta) (gName j) tYes te vs) σ H (IsLs fun ds => ∃ n, Pn n ∧ ds.length = n.toNat ∧ ∀ d, d ∈ ds → Pe d) := fun H0 e Q q => h H0 e _ fun us ds H1 e1 hds p => by
  obtain ⟨n, rfl, pn⟩ := p
  obtain ⟨x, rfl⟩ := (show ∃ x, us = [x] by
    cases hds with
    | cons h1 h2 => cases h2; exact ⟨_, rfl⟩)
  have hx : x = .int n := by
    cases hds with
    | cons h1 h2 => exact dpI h1
  subst hx
  have hb := hn n pn
  refine ⟨n, rfl, by omega, by omega, fun Dl hD => ?_⟩
  have hm := Wd.notM e1.j hD
  refine lc_range (lo := 0) (n := n.toNat) (fun i H' => Same ((W.plus Dl (.lst [])).wo H1) ((W.plus Dl (.lst [])).wo H') ∧ W.J H' ∧ ∃ acc es, H' Dl = some (.lst acc) ∧ DpAll K ((W.plus Dl (.lst [])).wo H') acc es ∧ es.length = i ∧ ∀ d, d ∈ es → Pe d)
    ⟨Wd.wo_upd, (Wd.plus_j (o := .lst []) e1.j hm).1, [], [], upd_same, .nil, rfl, fun d hd => by cases hd⟩ (fun i H' hi pp => ⟨hw _, ?_⟩) fun H' pp => ?_
  · obtain ⟨sm, jj, acc, es, h1, h2, h3, h4⟩ := pp
    dsimp only [tYes]
    rw [if_pos rfl]
    have e0 : (0 : Int) + (i : Int) = (i : Int) := Int.zero_add _
    rw [e0]
    have sm0 : Same (W.wo H) ((W.plus Dl (.lst acc)).wo H') := (e.trans e1).s.trans ((Wd.same_plus hD).trans sm)
    refine he n i Dl acc H' pn (by omega) hm sm0 ⟨jj, h1⟩ H' (.refl ⟨jj, h1⟩) _ fun v d H2 e2 hd pd => ?_
    refine ⟨acc, e2.j.2, sz_lt (by rw [dpAll_len h2, h3]; omega), sm.trans (e2.s.trans Wd.wo_upd), (Wd.plus_j (o := .lst (acc ++ [v])) e2.j.1 hm).1, acc ++ [v], es ++ [d], upd_same, ?_, by rw [List.length_append, h3]; rfl, fun x hx => ?_⟩
    · exact dpAll_mono Wd.wo_upd (dpAll_append (dpAll_mono e2.s h2) (.cons hd .nil))
    · rcases List.mem_append.mp hx with hx | hx
      · exact h4 x hx
      · rw [List.mem_singleton.mp hx]; exact pd
  · obtain ⟨sm, jj, acc, es, h1, h2, h3, h4⟩ := pp
    exact q (.ref Dl) (.list es) H' (e1.trans (Wd.of_plus hD jj sm)) (.lst (sq_of (Wd.wo_at hm h1)) (dpAll_mono Wd.plus_same h2)) ⟨es, rfl, n, pn, h3, h4⟩
/-- len, tuple(..), slices, + of data -/
theorem em_lenT {P1 : List PyData → Prop} {P : Int → Prop} (h : Em W K te σ H (IsTp P1)) (hp : ∀ ds, P1 ds → P ds.length) : Em W K (tCB (rLenS K) (tCons te tNil)) σ H (IsI P) := fun H1 e Q q => h H1 e _ fun v d H2 e2 hd p => by
  obtain ⟨ds, rfl, p1⟩ := p
  obtain ⟨a, xs, rfl, hs, hds⟩ := dpT hd
  exact ⟨a, xs, rfl, .inr (sqT_wo hs), q _ _ H2 e2 (.int _) ⟨_, rfl, by rw [dpAll_len hds]; exact hp ds p1⟩⟩
theorem em_lenL {P1 : List PyData → Prop} {P : Int → Prop} (h : Em W K te σ H (IsLs P1)) (hp : ∀ ds, P1 ds → P ds.length) : Em W K (tCB (rLenS K) (tCons te tNil)) σ H (IsI P) := fun H1 e Q q => h H1 e _ fun v d H2 e2 hd p => by
  obtain ⟨ds, rfl, p1⟩ := p
  obtain ⟨a, xs, rfl, hs, hds⟩ := dpL hd
  exact ⟨a, xs, rfl, .inl (sqL_wo hs), q _ _ H2 e2 (.int _) ⟨_, rfl, by rw [dpAll_len hds]; exact hp ds p1⟩⟩
def rTupO (K : PySem.W.Frag) : List V → Hp → VK → Prop := fun xs H Q => ∃ p ys, xs = [.ref p] ∧ ((SqL K H p ys ∧ ∀ l, H l = none → Q (.ref l) (upd H l (.tup ys))) ∨ (SqT K H p ys ∧ Q (.ref p) H))
/-- tuple(list) -/
theorem em_tupL {P1 : List PyData → Prop} (h : Em W K te σ H (IsLs P1)) (hp : ∀ ds, P1 ds → P (.tuple ds)) : Em W K (tCB (rTupO K) (tCons te tNil)) σ H P := fun H1 e Q q => h H1 e _ fun v d H2 e2 hd p => by
  obtain ⟨ds, rfl, p1⟩ := p
  obtain ⟨a, xs, rfl, hs, hds⟩ := dpL hd
  refine ⟨a, xs, rfl, .inl ⟨sqL_wo hs, fun l hl => ?_⟩⟩
  exact q (.ref l) (.tuple ds) (upd H2 l (.tup xs)) (e2.trans (.new e2.j hl)) (.tup (st_of (Wd.wo_at (Wd.notM e2.j hl) upd_same)) ((Wd.Le.new e2.j hl).dpAll hds)) (hp ds p1)
/-- list(list), list(tuple) -/
theorem em_lstL {P1 : List PyData → Prop} (h : Em W K te σ H (IsLs P1)) (hp : ∀ ds, P1 ds → P (.list ds)) : Em W K (tCB (rListS K) (tCons te tNil)) σ H P := fun H1 e Q q => h H1 e _ fun v d H2 e2 hd p => by
  obtain ⟨ds, rfl, p1⟩ := p
  obtain ⟨a, xs, rfl, hs, hds⟩ := dpL hd
  refine ⟨a, xs, rfl, .inl (sqL_wo hs), fun l hl => ?_⟩
  exact q (.ref l) (.list ds) (upd H2 l (.lst xs)) (e2.trans (.new e2.j hl)) (.lst (sq_of (Wd.wo_at (Wd.notM e2.j hl) upd_same)) ((Wd.Le.new e2.j hl).dpAll hds)) (hp ds p1)
theorem em_lstT {P1 : List PyData → Prop} (h : Em W K te σ H (IsTp P1)) (hp : ∀ ds, P1 ds → P (.list ds)) : Em W K (tCB (rListS K) (tCons te tNil)) σ H P := fun H1 e Q q => h H1 e _ fun v d H2 e2 hd p => by
  obtain ⟨ds, rfl, p1⟩ := p
  obtain ⟨a, xs, rfl, hs, hds⟩ := dpT hd
  refine ⟨a, xs, rfl, .inr (sqT_wo hs), fun l hl => ?_⟩
  exact q (.ref l) (.list ds) (upd H2 l (.lst xs)) (e2.trans (.new e2.j hl)) (.lst (sq_of (Wd.wo_at (Wd.notM e2.j hl) upd_same)) ((Wd.Le.new e2.j hl).dpAll hds)) (hp ds p1)
/-- the data of a slice -/
def cutD (ds : List PyData) (lo hi : Option Int) : List PyData := (ds.drop (HT.sIx ds.length 0 lo)).take (HT.sIx ds.length ds.length hi - HT.sIx ds.length 0 lo)
theorem dp_cut {H : Hp} {xs : List V} {ds : List PyData} (h : DpAll K H xs ds) (lo hi : Option Int) : DpAll K H (cutV xs lo hi) (cutD ds lo hi) := by
  unfold cutV cutD
  rw [dpAll_len h]
  exact dpAll_take _ (dpAll_drop _ h)
def EmO (W : Wd) (to : TO) (σ : L2.St) (H : Hp) (P : Option Int → Prop) : Prop := ∀ H1, W.Le H H1 → ∀ Q : Option Int → Hp → Prop, (∀ o H2, W.Le H1 H2 → P o → Q o H2) → to σ H1 Q
theorem emo_none {P : Option Int → Prop} (p : P none) : EmO W tNoPart σ H P := fun H1 e _ q => q none H1 (.refl e.j) p
theorem emo_some {P1 : Int → Prop} {P : Option Int → Prop} (h : Em W K te σ H (IsI P1)) (hp : ∀ i, P1 i → P (some i)) : EmO W (tPart te) σ H P := fun H1 e _ q => h H1 e _ fun v d H2 e2 hd p => by
  obtain ⟨i, rfl, pi⟩ := p
  cases dpI hd
  exact ⟨i, rfl, q (some i) H2 e2 (hp i pi)⟩
theorem em_slL {tl th : TO} {P1 : List PyData → Prop} {Pl Ph : Option Int → Prop} (h : Em W K te σ H (IsLs P1)) (hl : EmO W tl σ H Pl) (hh : EmO W th σ H Ph) (hp : ∀ ds lo hi, P1 ds → Pl lo → Ph hi → P (.list (cutD ds lo hi))) : Em W K (tSl (rSlL K) te tl th) σ H P := fun H1 e Q q => h H1 e _ fun v d H2 e2 hd p =>
  hl H2 (e.trans e2) _ fun lo H3 e3 p3 => hh H3 (e.trans (e2.trans e3)) _ fun hi H4 e4 p4 => by
    obtain ⟨ds, rfl, p1⟩ := p
    obtain ⟨a, xs, rfl, hs, hds⟩ := dpL ((e3.trans e4).dp hd)
    refine ⟨a, xs, rfl, sqL_wo hs, fun l hl => ?_⟩
    exact q (.ref l) _ (upd H4 l (.lst (cutV xs lo hi))) (e2.trans (e3.trans (e4.trans (.new e4.j hl)))) (.lst (sq_of (Wd.wo_at (Wd.notM e4.j hl) upd_same)) ((Wd.Le.new e4.j hl).dpAll (dp_cut hds lo hi))) (hp ds lo hi p1 p3 p4)
theorem em_slT {tl th : TO} {P1 : List PyData → Prop} {Pl Ph : Option Int → Prop} (h : Em W K te σ H (IsTp P1)) (hl : EmO W tl σ H Pl) (hh : EmO W th σ H Ph) (hp : ∀ ds lo hi, P1 ds → Pl lo → Ph hi → P (.tuple (cutD ds lo hi))) : Em W K (tSl (rSlA K) te tl th) σ H P := fun H1 e Q q => h H1 e _ fun v d H2 e2 hd p =>
  hl H2 (e.trans e2) _ fun lo H3 e3 p3 => hh H3 (e.trans (e2.trans e3)) _ fun hi H4 e4 p4 => by
    obtain ⟨ds, rfl, p1⟩ := p
    obtain ⟨a, xs, rfl, hs, hds⟩ := dpT ((e3.trans e4).dp hd)
    refine ⟨a, xs, rfl, sqT_wo hs, fun hw => ?_, fun _ l hl => ?_⟩
    · have e0 : cutD ds lo hi = ds := by
        unfold cutD
        rw [← dpAll_len hds, hw.1, hw.2, Nat.sub_zero, List.drop_zero, dpAll_len hds, List.take_length]
      refine q (.ref a) (.tuple ds) H4 (e2.trans (e3.trans e4)) (.tup hs hds) ?_
      have := hp ds lo hi p1 p3 p4
      rw [e0] at this
      exact this
    · exact q (.ref l) _ (upd H4 l (.tup (cutV xs lo hi))) (e2.trans (e3.trans (e4.trans (.new e4.j hl)))) (.tup (st_of (Wd.wo_at (Wd.notM e4.j hl) upd_same)) ((Wd.Le.new e4.j hl).dpAll (dp_cut hds lo hi))) (hp ds lo hi p1 p3 p4)
/-- t + u -/
theorem em_catT {P1 P2 : List PyData → Prop} (ha : Em W K ta σ H (IsTp P1)) (hb : Em W K tb σ H (IsTp P2)) (hp : ∀ ds es, P1 ds → P2 es → ds.length + es.length ≤ 20000 ∧ P (.tuple (ds ++ es))) : Em W K (tOp (rCatA K) ta tb) σ H P :=
  em_op ha hb fun x y dx dy H1 e hx px hy py Q q => by
    obtain ⟨ds, rfl, p1⟩ := px
    obtain ⟨es, rfl, p2⟩ := py
    obtain ⟨a, xs, rfl, hs, hds⟩ := dpT hx
    obtain ⟨b, ys, rfl, hs2, hds2⟩ := dpT hy
    obtain ⟨hl, hP⟩ := hp ds es p1 p2
    refine ⟨a, b, xs, ys, rfl, rfl, sqT_wo hs, sqT_wo hs2, sz_of (by rw [dpAll_len hds, dpAll_len hds2]; omega), fun h0 => ?_, fun _ h0 => ?_, fun _ _ p hp => ?_⟩
    · subst h0
      cases hds
      exact q _ _ H1 (.refl e.j) (.tup hs2 hds2) hP
    · subst h0
      cases hds2
      rw [List.append_nil] at hP
      exact q _ _ H1 (.refl e.j) (.tup hs hds) hP
    · exact q _ _ _ (.new e.j hp) (.tup (st_of (Wd.wo_at (Wd.notM e.j hp) upd_same)) ((Wd.Le.new e.j hp).dpAll (dpAll_append hds hds2))) hP
end
end Nt
namespace Nt
open PySem PySem.Spec PyProof.Rows L2 Evl
theorem rc_max {H : Hp} {i j : Int} : RC (fun xs H Q => ∃ i j, xs = [V.int i, V.int j] ∧ Q (.int (if j > i then j else i)) H) [.int i, .int j] H (.int (if j > i then j else i)) := fun H1 _ _ q => ⟨i, j, rfl, q H1 (Ex.refl H1)⟩
theorem rc_min {H : Hp} {i j : Int} : RC (fun xs H Q => ∃ i j, xs = [V.int i, V.int j] ∧ Q (.int (if j < i then j else i)) H) [.int i, .int j] H (.int (if j < i then j else i)) := fun H1 _ _ q => ⟨i, j, rfl, q H1 (Ex.refl H1)⟩
/-- a pure def's call on data -/
theorem em_pure1 {W : Wd} {K : PySem.W.Frag} {σ : L2.St} {H : Hp} {te : TE} {E : XK} {sp : Sp} {P1 : PyData → Prop} {P : PyData → Prop} (h : Em W K te σ H P1) (hs : ∀ v d H1, W.Le H H1 → Dp K (W.wo H1) v d → P1 d → ∃ z dz, SpV sp [v] H1 z ∧ (∀ H2, Dp K H2 z dz) ∧ P dz) : Em W K (tCall sp [] E (tCons te tNil)) σ H P := fun H1 e Q q =>
  h H1 e _ fun v d H2 e2 hd p => by
    obtain ⟨z, dz, h1, h2, h3⟩ := hs v d H2 (e.trans e2) hd p
    exact h1 H2 (Ex.refl _) _ (fun H3 e3 => q z dz H3 (e2.trans (.of_same e2.j e3)) (h2 _) h3) E
theorem em_isi {W : Wd} {K : PySem.W.Frag} {σ : L2.St} {H : Hp} {te : TE} {n : String} {P1 : PyData → Prop} {P : Bool → Prop} (h : Em W K te σ H P1) (hp : ∀ d, P1 d → ∃ b, kitB (tyN d) n = some b ∧ P b) : Em W K (tCB (rIsi K) (tCons te (tCons (tC (.ty n)) tNil))) σ H (IsB P) := fun H1 e Q q => h H1 e _ fun v d H2 e2 hd p => by
  obtain ⟨b, hb, pb⟩ := hp d p
  exact isi_d (Wd.dp hd) hb H2 (Ex.refl _) Q fun H3 e3 => q _ _ H3 (e2.trans (.of_same e2.j e3)) (.bl b) ⟨b, rfl, pb⟩
theorem cut_pre (ds : List PyData) (n : Nat) : cutD ds none (some (n : Int)) = ds.take n := by
  unfold cutD
  rw [HT.sIx_nat, HT.sIx_none, List.drop_zero, Nat.sub_zero]
  by_cases h : n ≤ ds.length
  · rw [Nat.min_eq_left h]
  · rw [Nat.min_eq_right (by omega), List.take_length, List.take_of_length_le (by omega)]
theorem cut_suf (ds : List PyData) (n : Nat) : cutD ds (some (n : Int)) none = ds.drop n := by
  unfold cutD
  rw [HT.sIx_nat, HT.sIx_none]
  by_cases h : n ≤ ds.length
  · rw [Nat.min_eq_left h, List.take_of_length_le]
    rw [List.length_drop]
    exact Nat.le_refl _
  · rw [Nat.min_eq_right (by omega), Nat.sub_self, List.take_zero, List.drop_of_length_le (by omega)]
theorem em_is {W : Wd} {K : PySem.W.Frag} {σ : L2.St} {H : Hp} {i : Nat} {v : V} {d : PyData} (h : σ[i]? = some (some v)) (hd : Dp K (W.wo H) v d) : Em W K (tVar i) σ H (fun x => x = d) := em_var h hd rfl
theorem rc_abs {H : Hp} {i : Int} : RC (fun xs H Q => ∃ i, xs = [V.int i] ∧ Q (.int (if i < 0 then -i else i)) H) [.int i] H (.int (if i < 0 then -i else i)) := fun H1 _ _ q => ⟨i, rfl, q H1 (Ex.refl H1)⟩
theorem rc_intB {H : Hp} {b : Bool} : RC (fun xs H Q => (∃ i, xs = [V.int i] ∧ Q (.int i) H) ∨ ∃ k, xs = [V.bl k] ∧ Q (.int (if k then 1 else 0)) H) [.bl b] H (.int (if b then 1 else 0)) := fun H1 _ _ q => .inr ⟨b, rfl, q H1 (Ex.refl H1)⟩
theorem ok20 {n : Nat} (h : Nat.ble n 20000 = true := by rfl) : n ≤ 20000 := Nat.le_of_ble_eq_true h
theorem at_two {d0 d1 : PyData} {P : PyData → Prop} {i : Int} (h : 0 ≤ i ∧ i < 2) (h0 : P d0) (h1 : P d1) : ∃ d, atI [d0, d1] i = some d ∧ P d := by
  have h2 : i = 0 ∨ i = 1 := by omega
  rcases h2 with rfl | rfl
  · exact ⟨d0, atI_nat (j := 0) rfl, h0⟩
  · exact ⟨d1, atI_nat (j := 1) rfl, h1⟩
theorem at_three {d0 d1 d2 : PyData} {P : PyData → Prop} {i : Int} (h : 0 ≤ i ∧ i < 3) (h0 : P d0) (h1 : P d1) (h2 : P d2) : ∃ d, atI [d0, d1, d2] i = some d ∧ P d := by
  have h3 : i = 0 ∨ i = 1 ∨ i = 2 := by omega
  rcases h3 with rfl | rfl | rfl
  · exact ⟨d0, atI_nat (j := 0) rfl, h0⟩
  · exact ⟨d1, atI_nat (j := 1) rfl, h1⟩
  · exact ⟨d2, atI_nat (j := 2) rfl, h2⟩
theorem m_asg1 {W : Wd} {K : PySem.W.Frag} {σ : L2.St} {H : Hp} {te : TE} {P : PyData → Prop} {D : Ends} {tz : TS} {i : Nat} (j : W.J H) (h : Em W K te σ H P) (k : ∀ v d H1 p, W.Le H H1 → Dp K (W.wo H1) v d → P d → H1 p = none → tz D (σ.set i (some (.ref p))) (upd H1 p (.lst [v]))) : tSeq (tAsg (tLst (tCons te tNil)) (gName i)) tz D σ H :=
  h H (.refl j) _ fun v d H1 e hd pd => ⟨sz_of (by show 1 ≤ 100000; decide), fun p hp => k v d H1 p e hd pd hp⟩
end Nt

namespace Nt
open PySem PySem.Spec PyProof.Rows L2
/-! ### own exceptions made without arguments; isinstance of a caught one by several classes -/
section
variable {X : Cx} {C : Addr} {bmB : List Value} {B newId initId : String}
/-- X() -/
theorem pmk_own0 {x : Str} {p pos : Pos} (F : ExcBaseFacts B newId initId bmB) (q : PySem.W.excIn X.K C bmB newId = true) (gC : X.mg x = some (.ref C)) (kC : PySem.W.keepIn X.K (.ref C) = true) (r : Raises X (.ref C)) (hg : Gl X x)
    (hdb : (x == ("__debug__" : Str)) = false := by decide) : PMk X (.Call (.Name x p) [] [] pos) (fun _ H Q => Q (.ref C) none H) := by
  intro pins s σ H Q I h
  refine wpAny_Call_Name_kw (ld_glob I hg gC ?_ hdb)
  refine PySem.W.callWith_K0 I.kIn kC ?_
  show wpAny _ _ (call (.ref C) []) _ _ _
  obtain ⟨bm, N, nm, qn, bs, hdct, sn, sub, ab, col, dd, k0, k1, k2, k3, k5, mN, hC, hN, hni, T⟩ := exc_obj I.kIn q
  refine wpAny_call_exc_subT F T hC hN hni (fun h' e hm => ?_) (by show 0 ≤ sizeLine; exact Nat.zero_le _)
  exact mk_of I hm r h (I.hok.gone hm.new)
end
/-- isinstance(e, (C, ..)), e the exception that the suite holds -/
def rIsET (K : PySem.W.Frag) (D a : Addr) : List V → Hp → VK → Prop := fun xs H Q => ∃ (tp : Addr) (cs : List V) (us : List Value) (b : Bool), xs = [.ref a, .ref tp] ∧ H tp = some (.tup cs) ∧ Paired ClsV cs us ∧ PySem.W.kitAny K (.ref D) us = some b ∧ Q (.bl b) H
theorem call_isET {X : Cx} {a D : Addr} {oe : Obj} {pn : List (Addr × Obj)} (C : ExcC X.K D) (hz : Zc (.ref D) none oe) (hf : ∃ vs, oe.data = .fields vs) : CallR (X.suite a ((a, oe) :: pn)) (.builtin "isinstance") (rIsET X.K D a) := by
  intro pins s σ H xs us Q I r h
  obtain ⟨tp, cs, ws, b, rfl, hT, k, e, q⟩ := h
  obtain ⟨u1, u2, rfl, r1, r2⟩ := vals2 r
  cases (show u2 = Value.ref tp from r2)
  cases (show u1 = Value.ref a from r1)
  obtain ⟨hget, _⟩ := I.pin (a, oe) (List.mem_append.mpr (.inl List.mem_cons_self))
  obtain ⟨vs, hv⟩ := hf
  have J : PySem.W.InstAt s.heap a oe D none := by
    obtain ⟨oc, od, oda, osl⟩ := oe
    obtain ⟨h1, h2⟩ := hz
    dsimp only at h1 h2 hv
    subst h1 h2 hv
    exact ⟨hget, rfl, rfl, trivial⟩
  obtain ⟨_, its, rv, o, h1, h2, n, h3⟩ := (show ObjOk X.prog X.w H s.heap tp (.tup cs) from I.hok tp _ hT)
  have e3 := ClsV.all k rv
  subst e3
  obtain ⟨oc, od, dt, sl⟩ := o
  simp only at h2 h3
  subst h2 h3
  exact PySem.W.kia_tup (PySem.W.handS_kitx_exc C.hg C.hk C.hs C.hd C.ha C.hn C.ht C.hm) I.kIn J h1 e (fun z => nomatch z) fun tk => ⟨.bl b, H, I.kept (t' := tk) fun _ _ z => z, rfl, q⟩
/-! ### what the top tells of an own exception class -/
def ve : List Value := [.type "ValueError", .type "Exception", .type "BaseException", .type "object"]
structure ExcD (K : PySem.W.Frag) (C : Addr) (bm : List Value) (nw : String) : Prop where
  q : PySem.W.excIn K C bm nw = true
  k : PySem.W.keepIn K (.ref C) = true
  s : PySem.W.subIn K (.ref C) (.type "BaseException") = some true
  t : PySem.W.typeIn K (.ref C) = some (.type "type")
  c : ExcC K C
def kExc (K : PySem.W.Frag) (C : Addr) (bm : List Value) (nw : String) : Bool :=
  PySem.W.excIn K C bm nw && (PySem.W.keepIn K (.ref C) && (decide (PySem.W.subIn K (.ref C) (.type "BaseException") = some true) && (decide (PySem.W.typeIn K (.ref C) = some (.type "type"))
    && (He.eqO (PySem.W.findIn K (.ref C) "__getattribute__") (some (some (.builtin "BaseException.__getattribute__"))) && (He.eqO (PySem.W.findIn K (.ref C) "__getattr__") (some none) && (PySem.W.hasDictIn K C
    && (He.eqO (PySem.W.findIn K (.ref C) "__class__") (some (some (.builtin "object.__class__"))) && (He.eqO (PySem.W.specialIn K (.builtin "object.__class__") "__get__") (some (some (.builtin "getset_descriptor.__get__")))
    && (decide (PySem.W.takesIn K (.builtin "object.__class__") = some true) && decide (PySem.W.mroIn K C (.type "object") = some true))))))))))
theorem kExc_ok {K : PySem.W.Frag} {C : Addr} {bm : List Value} {nw : String} (h : kExc K C bm nw = true) : ExcD K C bm nw := by
  obtain ⟨h1, h⟩ := He.ba h
  obtain ⟨h2, h⟩ := He.ba h
  obtain ⟨h3, h⟩ := He.ba h
  obtain ⟨h4, h⟩ := He.ba h
  obtain ⟨h5, h⟩ := He.ba h
  obtain ⟨h6, h⟩ := He.ba h
  obtain ⟨h7, h⟩ := He.ba h
  obtain ⟨h8, h⟩ := He.ba h
  obtain ⟨h9, h⟩ := He.ba h
  obtain ⟨h10, h11⟩ := He.ba h
  have h3 := of_decide_eq_true h3
  exact ⟨h1, h2, h3, of_decide_eq_true h4, ⟨He.eqO_ok h5, He.eqO_ok h6, h3, h7, He.eqO_ok h8, He.eqO_ok h9, of_decide_eq_true h10, of_decide_eq_true h11⟩⟩
/-- of two classes: is the first under the second -/
structure Und (K : PySem.W.Frag) (C D : Addr) (b : Bool) : Prop where
  m : PySem.W.exmOne K (.ref C) (.ref D) = some b
  i : PySem.W.kitOne K (.ref C) (.ref D) = some b
def kUnd (K : PySem.W.Frag) (C D : Addr) (b : Bool) : Bool := decide (PySem.W.exmOne K (.ref C) (.ref D) = some b) && decide (PySem.W.kitOne K (.ref C) (.ref D) = some b)
theorem kUnd_ok {K : PySem.W.Frag} {C D : Addr} {b : Bool} (h : kUnd K C D b = true) : Und K C D b := ⟨of_decide_eq_true (He.ba h).1, of_decide_eq_true (He.ba h).2⟩
/-! ### a def with a default that is taken -/
structure DefV (P : Program) (w : World) (K : PySem.W.Frag) (mg : Str → Option Value) (base : Heap) (CX : CXT) (k : Nat) (x : Str) (ps : List Str) (dvs : List V) (sp : Sp) : Prop where
  ex : ∃ (f : Addr) (fd : FuncData) (ds : List Value), mg x = some (.ref f) ∧ PySem.W.keepIn K (.ref f) = true ∧ Vals dvs ds ∧ Binds K fd ps ds ∧ FnOk P w K mg base CX k f fd ps sp
/-- a def called with keywords -/
structure DefN (P : Program) (w : World) (K : PySem.W.Frag) (mg : Str → Option Value) (base : Heap) (CX : CXT) (k : Nat) (x : Str) (ps : List Str) (n : Nat) (ks : List Str) (gV : List V → List V → List V) (sp : Sp) : Prop where
  ex : ∃ (f : Addr) (fd : FuncData) (g : List Value → List Value → List Value), mg x = some (.ref f) ∧ PySem.W.keepIn K (.ref f) = true ∧ KBn K fd ps n ks g gV ∧ FnOk P w K mg base CX k f fd ps sp
section
variable {X : Cx} {CX : CXT} {k n : Nat} {ps ks : List Str} {sp : Sp} {E : XK} {x : Str} {p pos : Pos} {e : Expr} {es : List Expr} {t tk : TA} {dvs : List V} {kws : List Keyword} {gV : List V → List V → List V}
theorem pe_callV (D : DefV X.prog X.w X.K X.mg X.base CX k x ps dvs sp) (hr : Room k X.A) (hg : Gl X x) (hx : Passes CX X E) (ha : PA X (e :: es) t) (hdb : (x == ("__debug__" : Str)) = false := by decide)
    (he : starEach (e :: es) X.env = (false, eval e X.env) :: starEach es X.env := by rfl) (hpl : (backTo pos (starEach es X.env)).any (·.1) = false := by rfl) :
    PE X (.Call (.Name x p) (e :: es) [] pos) (tCall sp dvs E t) := by
  obtain ⟨f, fd, ds, h1, h2, h3, h4, h5⟩ := D.ex
  exact pe_call h5 hr hg h1 h2 h4 h3 hx ha hdb he hpl
theorem pe_callNN (D : DefN X.prog X.w X.K X.mg X.base CX k x ps n ks gV sp) (hr : Room k X.A) (hg : Gl X x) (hx : Passes CX X E) (ha : PA X (e :: es) t) (hkw : PK X kws tk) (hall : (backToKw pos (keywordEach kws X.env)).all (·.1.isSome) = true := by rfl) (hks : (backToKw pos (keywordEach kws X.env)).filterMap (·.1) = ks := by rfl)
    (hdb : (x == ("__debug__" : Str)) = false := by decide) (he : starEach (e :: es) X.env = (false, eval e X.env) :: starEach es X.env := by rfl)
    (hpl : ((backTo pos (starEach (e :: es) X.env)).any (·.1) || (backToKw pos (keywordEach kws X.env)).any (·.1.isNone)) = false := by rfl) :
    PE X (.Call (.Name x p) (e :: es) kws pos) (tCallN n ks.length sp gV E t tk) := by
  obtain ⟨f, fd, g, h1, h2, h3, h4⟩ := D.ex
  exact pe_callN h4 hr hg h1 h2 h3 hx ha hkw hall hks hdb he hpl
end
section
variable {X : Cx} {CX : CXT} {k n : Nat} {ps ks : List Str} {sp : Sp} {E : L2.St → XK} {x : Str} {p pos : Pos} {e : Expr} {es : List Expr} {t tk : TA}
theorem pe_callDX (D : Def X.prog X.w X.K X.mg X.base CX k x ps sp) (hr : Room k X.A) (hg : Gl X x) (hx : ∀ σ, PassesAt CX X σ (E σ)) (ha : PA X (e :: es) t) (hdb : (x == ("__debug__" : Str)) = false := by decide)
    (he : starEach (e :: es) X.env = (false, eval e X.env) :: starEach es X.env := by rfl) (hpl : (backTo pos (starEach es X.env)).any (·.1) = false := by rfl) :
    PE X (.Call (.Name x p) (e :: es) [] pos) (tCallS sp E t) := by
  obtain ⟨f, fd, h1, h2, h3, h4⟩ := D.ex
  exact pe_callS h4 hr hg h1 h2 h3 hx ha hdb he hpl
theorem pe_callVX (D : DefV X.prog X.w X.K X.mg X.base CX k x ps [] sp) (hr : Room k X.A) (hg : Gl X x) (hx : ∀ σ, PassesAt CX X σ (E σ)) (ha : PA X (e :: es) t) (hdb : (x == ("__debug__" : Str)) = false := by decide)
    (he : starEach (e :: es) X.env = (false, eval e X.env) :: starEach es X.env := by rfl) (hpl : (backTo pos (starEach es X.env)).any (·.1) = false := by rfl) :
    PE X (.Call (.Name x p) (e :: es) [] pos) (tCallS sp E t) := by
  obtain ⟨f, fd, ds, h1, h2, h3, h4, h5⟩ := D.ex
  cases h3
  exact pe_callS h5 hr hg h1 h2 h4 hx ha hdb he hpl
end
/-- an except suite, once the class is known -/
theorem pss_cls {Y : Cx} {body : List Stmt} {oe : Obj} {cls : Value} {d : Option Addr} {D : Addr} {t : TS} (hz : Zc cls d oe) (h : Zc (.ref D) none oe → PSs Y body t) : PSs Y body (fun D' σ H => cls = .ref D ∧ d = none ∧ t D' σ H) :=
  ⟨fun pins s σ H D' I hh => by
    obtain ⟨rfl, rfl, hh⟩ := hh
    exact (h hz).run pins s σ H D' I hh⟩
section
variable {P : Program} {w : World} {K : PySem.W.Frag} {mg : Str → Option Value} {base : Heap} {x qual : Str} {params : Arguments} {body : List Stmt} {scope : Scope} {kws : List (Str × V)}
/-- a def with keyword-only defaults, all of them taken -/
theorem mkDefV {CX : CXT} {N ps : List Str} {k n : Nat} {sp : Sp} {f : Addr} (F : ∃ fd, FunD K x qual params body scope [] kws f fd) (g : mg x = some (.ref f)) (S : FnScope N ps scope) (hk : kws ≠ []) (hn : n + kws.length = ps.length)
    (hb : ∀ (D : Addr) (doc pm : Value) (an : Option Addr) (cdv ct : Value) (us ks : List Value), us.length = n → ks.length = kws.length →
      KwChain D ((kws.map (·.1)).zip ks) (bindArgs (PySem.W.fnOf x qual params body scope .none (.ref D) doc pm an cdv ct) ⟨us, []⟩) (ps.zip (us ++ ks)))
    (len : ∀ vs H Q E, sp vs H Q E → vs.length = ps.length)
    (hbody : ∀ (cdv : Value) (A : Around) (outer : List Env) (s : Shared) (H : Hp) (vs : List V) (Q : VK) (E : XK), Room k (A.deeper (envOfC qual scope s.heap.objs.size f cdv)) → sp vs H Q E →
      ∃ t, PSs (cxOf CX P w K mg base N qual scope f cdv A outer s H E) body t ∧ t { nx := fun _ H' => Q .non H', rt := Q } (start N vs) H) : DefV P w K mg base CX (k + 1) x ps (kws.map (·.2)) sp := by
  obtain ⟨fd, F⟩ := F
  obtain ⟨ds, h1, h2⟩ := F.binds0 n hk hn hb
  exact ⟨f, fd, ds, g, F.kp, h1, h2, F.ok S len hbody⟩
end
/-! ### == of data without dicts -/
def rEqP (K : PySem.W.Frag) : R2 := fun x y H Q => ∃ d e, Dp K H x d ∧ Dp K H y e ∧ d.plain = true ∧ e.plain = true ∧ d.depth ≤ 64 ∧ Q (.bl (PyData.eqv d e)) H
def rNeP (K : PySem.W.Frag) : R2 := fun x y H Q => ∃ d e, Dp K H x d ∧ Dp K H y e ∧ d.plain = true ∧ e.plain = true ∧ d.depth ≤ 64 ∧ Q (.bl (!PyData.eqv d e)) H
section
variable {X : Cx}
theorem op_eqP (hu : X.A.units + 64 < cLine) : OpR X (compareOp .Eq) (rEqP X.K) := by
  intro pins s σ H x y v u Q I rx ry h
  obtain ⟨d, e, hd, he, sd, se, hk, q⟩ := h
  obtain ⟨as, r1⟩ := Dp.reads I d x v hd rx
  obtain ⟨bs, r2⟩ := Dp.reads I e y u he ry
  exact PySem.SeqAt.eq_plain r1 r2 sd se (by have : min d.depth e.depth ≤ d.depth := Nat.min_le_left _ _; omega) ⟨.bl _, H, I, rfl, q⟩
theorem op_neP (hu : X.A.units + 64 < cLine) : OpR X (compareOp .NotEq) (rNeP X.K) := by
  intro pins s σ H x y v u Q I rx ry h
  obtain ⟨d, e, hd, he, sd, se, hk, q⟩ := h
  obtain ⟨as, r1⟩ := Dp.reads I d x v hd rx
  obtain ⟨bs, r2⟩ := Dp.reads I e y u he ry
  exact PySem.SeqAt.ne_plain r1 r2 sd se (by have : min d.depth e.depth ≤ d.depth := Nat.min_le_left _ _; omega) ⟨.bl _, H, I, rfl, q⟩
end
/-- what is known of a class with an own == -/
structure OwnE (K : PySem.W.Frag) (C f : Addr) : Prop where
  hm : PySem.W.mroIn K C (.type "object") = some true
  ne : PySem.W.findIn K (.ref C) "__ne__" = some (some (.builtin "object.__ne__"))
  eq : PySem.W.findIn K (.ref C) "__eq__" = some (some (.ref f))
  fn : PySem.W.isFn K (.ref f) = true
  ha : PySem.W.findIn K (.ref C) "__class__" = some (some (.builtin "object.__class__"))
  hn : PySem.W.specialIn K (.builtin "object.__class__") "__get__" = some (some (.builtin "getset_descriptor.__get__"))
  htk : PySem.W.takesIn K (.builtin "object.__class__") = some true
  self : PySem.W.kitOne K (.ref C) (.ref C) = some true
def kOwnE (K : PySem.W.Frag) (C f : Addr) : Bool := decide (PySem.W.mroIn K C (.type "object") = some true) && (He.eqO (PySem.W.findIn K (.ref C) "__ne__") (some (some (.builtin "object.__ne__"))) && (He.eqO (PySem.W.findIn K (.ref C) "__eq__") (some (some (.ref f))) && (PySem.W.isFn K (.ref f) && (He.eqO (PySem.W.findIn K (.ref C) "__class__") (some (some (.builtin "object.__class__"))) && (He.eqO (PySem.W.specialIn K (.builtin "object.__class__") "__get__") (some (some (.builtin "getset_descriptor.__get__"))) && (decide (PySem.W.takesIn K (.builtin "object.__class__") = some true) && decide (PySem.W.kitOne K (.ref C) (.ref C) = some true)))))))
theorem kOwnE_ok {K : PySem.W.Frag} {C f : Addr} (h : kOwnE K C f = true) : OwnE K C f := by
  obtain ⟨h1, h⟩ := He.ba h
  obtain ⟨h2, h⟩ := He.ba h
  obtain ⟨h3, h⟩ := He.ba h
  obtain ⟨h4, h⟩ := He.ba h
  obtain ⟨h5, h⟩ := He.ba h
  obtain ⟨h6, h⟩ := He.ba h
  obtain ⟨h7, h8⟩ := He.ba h
  exact ⟨of_decide_eq_true h1, He.eqO_ok h2, He.eqO_ok h3, h4, He.eqO_ok h5, He.eqO_ok h6, of_decide_eq_true h7, of_decide_eq_true h8⟩
end Nt

namespace Nt
open PySem PySem.Spec PyProof.Rows L2
def topS (i : Nat) : Stmt := PySem.Challenge.pw_neithertells_k11_silent_runs.main.body.getD i (.Pass ⟨0, 0, 0, 0⟩)
abbrev s_is_integer : Stmt := topS 14
abbrev N_is_integer : List Str := (["thing"] : List Str)
theorem sc_is_integer : FnScope N_is_integer ["thing"] (defScope s_is_integer) := ⟨rfl, rfl, rfl, by decide +kernel, rfl, by decide +kernel, by decide +kernel⟩
abbrev s_is_one_of : Stmt := topS 15
abbrev N_is_one_of : List Str := (["thing", "names"] : List Str)
theorem sc_is_one_of : FnScope N_is_one_of ["thing", "names"] (defScope s_is_one_of) := ⟨rfl, rfl, rfl, by decide +kernel, rfl, by decide +kernel, by decide +kernel⟩
abbrev s_is_value : Stmt := topS 16
abbrev N_is_value : List Str := (["thing"] : List Str)
theorem sc_is_value : FnScope N_is_value ["thing"] (defScope s_is_value) := ⟨rfl, rfl, rfl, by decide +kernel, rfl, by decide +kernel, by decide +kernel⟩
abbrev s_is_term : Stmt := topS 17
abbrev N_is_term : List Str := (["thing"] : List Str)
theorem sc_is_term : FnScope N_is_term ["thing"] (defScope s_is_term) := ⟨rfl, rfl, rfl, by decide +kernel, rfl, by decide +kernel, by decide +kernel⟩
abbrev s_is_condition : Stmt := topS 18
abbrev N_is_condition : List Str := (["thing", "variable", "sign", "term"] : List Str)
theorem sc_is_condition : FnScope N_is_condition ["thing"] (defScope s_is_condition) := ⟨rfl, rfl, rfl, by decide +kernel, rfl, by decide +kernel, by decide +kernel⟩
abbrev s_is_set : Stmt := topS 19
abbrev N_is_set : List Str := (["parts"] : List Str)
theorem sc_is_set : FnScope N_is_set ["parts"] (defScope s_is_set) := ⟨rfl, rfl, rfl, by decide +kernel, rfl, by decide +kernel, by decide +kernel⟩
abbrev s_is_add : Stmt := topS 20
abbrev N_is_add : List Str := (["parts"] : List Str)
theorem sc_is_add : FnScope N_is_add ["parts"] (defScope s_is_add) := ⟨rfl, rfl, rfl, by decide +kernel, rfl, by decide +kernel, by decide +kernel⟩
abbrev s_is_wait : Stmt := topS 21
abbrev N_is_wait : List Str := (["parts"] : List Str)
theorem sc_is_wait : FnScope N_is_wait ["parts"] (defScope s_is_wait) := ⟨rfl, rfl, rfl, by decide +kernel, rfl, by decide +kernel, by decide +kernel⟩
abbrev s_is_ask : Stmt := topS 22
abbrev N_is_ask : List Str := (["parts"] : List Str)
theorem sc_is_ask : FnScope N_is_ask ["parts"] (defScope s_is_ask) := ⟨rfl, rfl, rfl, by decide +kernel, rfl, by decide +kernel, by decide +kernel⟩
abbrev s_is_answer : Stmt := topS 23
abbrev N_is_answer : List Str := (["parts"] : List Str)
theorem sc_is_answer : FnScope N_is_answer ["parts"] (defScope s_is_answer) := ⟨rfl, rfl, rfl, by decide +kernel, rfl, by decide +kernel, by decide +kernel⟩
abbrev s_is_one_term : Stmt := topS 24
abbrev N_is_one_term : List Str := (["parts"] : List Str)
theorem sc_is_one_term : FnScope N_is_one_term ["parts"] (defScope s_is_one_term) := ⟨rfl, rfl, rfl, by decide +kernel, rfl, by decide +kernel, by decide +kernel⟩
abbrev s_count_block : Stmt := topS 26
abbrev N_count_block : List Str := (["kind", "word", "parts", "depth", "bodies", "counts", "body"] : List Str)
theorem sc_count_block : FnScope N_count_block ["kind", "word", "parts", "depth"] (defScope s_count_block) := ⟨rfl, rfl, rfl, by decide +kernel, rfl, by decide +kernel, by decide +kernel⟩
abbrev s_count_statement : Stmt := topS 27
abbrev N_count_statement : List Str := (["kind", "thing", "depth", "word", "parts", "check"] : List Str)
theorem sc_count_statement : FnScope N_count_statement ["kind", "thing", "depth"] (defScope s_count_statement) := ⟨rfl, rfl, rfl, by decide +kernel, rfl, by decide +kernel, by decide +kernel⟩
abbrev s_count_body : Stmt := topS 28
abbrev N_count_body : List Str := (["kind", "thing", "depth", "counts", "statement"] : List Str)
theorem sc_count_body : FnScope N_count_body ["kind", "thing", "depth"] (defScope s_count_body) := ⟨rfl, rfl, rfl, by decide +kernel, rfl, by decide +kernel, by decide +kernel⟩
abbrev s_is_program : Stmt := topS 29
abbrev N_is_program : List Str := (["thing", "count"] : List Str)
theorem sc_is_program : FnScope N_is_program ["thing"] (defScope s_is_program) := ⟨rfl, rfl, rfl, by decide +kernel, rfl, by decide +kernel, by decide +kernel⟩
abbrev s_check_program : Stmt := topS 30
abbrev N_check_program : List Str := (["thing", "kind"] : List Str)
theorem sc_check_program : FnScope N_check_program ["thing", "kind"] (defScope s_check_program) := ⟨rfl, rfl, rfl, by decide +kernel, rfl, by decide +kernel, by decide +kernel⟩
abbrev s_place_if : Stmt := topS 32
abbrev N_place_if : List Str := (["code", "parts", "condition", "first", "second", "test", "jump"] : List Str)
theorem sc_place_if : FnScope N_place_if ["code", "parts"] (defScope s_place_if) := ⟨rfl, rfl, rfl, by decide +kernel, rfl, by decide +kernel, by decide +kernel⟩
abbrev s_place_while : Stmt := topS 33
abbrev N_place_while : List Str := (["code", "parts", "condition", "body", "test"] : List Str)
theorem sc_place_while : FnScope N_place_while ["code", "parts"] (defScope s_place_while) := ⟨rfl, rfl, rfl, by decide +kernel, rfl, by decide +kernel, by decide +kernel⟩
abbrev s_place_body : Stmt := topS 35
abbrev N_place_body : List Str := (["code", "body", "statement", "word", "parts", "place"] : List Str)
theorem sc_place_body : FnScope N_place_body ["code", "body"] (defScope s_place_body) := ⟨rfl, rfl, rfl, by decide +kernel, rfl, by decide +kernel, by decide +kernel⟩
abbrev s_assemble : Stmt := topS 36
abbrev N_assemble : List Str := (["program", "code"] : List Str)
theorem sc_assemble : FnScope N_assemble ["program"] (defScope s_assemble) := ⟨rfl, rfl, rfl, by decide +kernel, rfl, by decide +kernel, by decide +kernel⟩
abbrev s_Walk___init__ : Stmt := inClass (topS 38) 0
abbrev N_Walk___init__ : List Str := (["self", "code", "position", "members", "member"] : List Str)
theorem sc_Walk___init__ : FnScope N_Walk___init__ ["self", "code", "position", "members"] (defScope s_Walk___init__) := ⟨rfl, rfl, rfl, by decide +kernel, rfl, by decide +kernel, by decide +kernel⟩
abbrev s_Walk_term : Stmt := inClass (topS 38) 1
abbrev N_Walk_term : List Str := (["self", "term"] : List Str)
theorem sc_Walk_term : FnScope N_Walk_term ["self", "term"] (defScope s_Walk_term) := ⟨rfl, rfl, rfl, by decide +kernel, rfl, by decide +kernel, by decide +kernel⟩
abbrev s_Walk_state : Stmt := inClass (topS 38) 2
abbrev N_Walk_state : List Str := (["self"] : List Str)
theorem sc_Walk_state : FnScope N_Walk_state ["self"] (defScope s_Walk_state) := ⟨rfl, rfl, rfl, by decide +kernel, rfl, by decide +kernel, by decide +kernel⟩
abbrev s_Walk_is_over : Stmt := inClass (topS 38) 3
abbrev N_Walk_is_over : List Str := (["self"] : List Str)
theorem sc_Walk_is_over : FnScope N_Walk_is_over ["self"] (defScope s_Walk_is_over) := ⟨rfl, rfl, rfl, by decide +kernel, rfl, by decide +kernel, by decide +kernel⟩
abbrev s_Walk_next_cost : Stmt := inClass (topS 38) 4
abbrev N_Walk_next_cost : List Str := (["self", "word", "parts"] : List Str)
theorem sc_Walk_next_cost : FnScope N_Walk_next_cost ["self"] (defScope s_Walk_next_cost) := ⟨rfl, rfl, rfl, by decide +kernel, rfl, by decide +kernel, by decide +kernel⟩
abbrev s_Walk_execute : Stmt := inClass (topS 38) 5
abbrev N_Walk_execute : List Str := (["self", "word", "parts", "action"] : List Str)
theorem sc_Walk_execute : FnScope N_Walk_execute ["self"] (defScope s_Walk_execute) := ⟨rfl, rfl, rfl, by decide +kernel, rfl, by decide +kernel, by decide +kernel⟩
abbrev s_do_set : Stmt := topS 39
abbrev N_do_set : List Str := (["walk", "parts", "variable", "value"] : List Str)
theorem sc_do_set : FnScope N_do_set ["walk", "parts"] (defScope s_do_set) := ⟨rfl, rfl, rfl, by decide +kernel, rfl, by decide +kernel, by decide +kernel⟩
abbrev s_do_add : Stmt := topS 40
abbrev N_do_add : List Str := (["walk", "parts", "variable", "term"] : List Str)
theorem sc_do_add : FnScope N_do_add ["walk", "parts"] (defScope s_do_add) := ⟨rfl, rfl, rfl, by decide +kernel, rfl, by decide +kernel, by decide +kernel⟩
abbrev s_do_wait : Stmt := topS 41
abbrev N_do_wait : List Str := (["walk", "parts"] : List Str)
theorem sc_do_wait : FnScope N_do_wait ["walk", "parts"] (defScope s_do_wait) := ⟨rfl, rfl, rfl, by decide +kernel, rfl, by decide +kernel, by decide +kernel⟩
abbrev s_do_ask : Stmt := topS 42
abbrev N_do_ask : List Str := (["walk", "parts", "sign", "term", "variable", "place"] : List Str)
theorem sc_do_ask : FnScope N_do_ask ["walk", "parts"] (defScope s_do_ask) := ⟨rfl, rfl, rfl, by decide +kernel, rfl, by decide +kernel, by decide +kernel⟩
abbrev s_do_answer : Stmt := topS 43
abbrev N_do_answer : List Str := (["walk", "parts"] : List Str)
theorem sc_do_answer : FnScope N_do_answer ["walk", "parts"] (defScope s_do_answer) := ⟨rfl, rfl, rfl, by decide +kernel, rfl, by decide +kernel, by decide +kernel⟩
abbrev s_do_grow : Stmt := topS 44
abbrev N_do_grow : List Str := (["walk", "parts"] : List Str)
theorem sc_do_grow : FnScope N_do_grow ["walk", "parts"] (defScope s_do_grow) := ⟨rfl, rfl, rfl, by decide +kernel, rfl, by decide +kernel, by decide +kernel⟩
abbrev s_do_list : Stmt := topS 45
abbrev N_do_list : List Str := (["walk", "parts"] : List Str)
theorem sc_do_list : FnScope N_do_list ["walk", "parts"] (defScope s_do_list) := ⟨rfl, rfl, rfl, by decide +kernel, rfl, by decide +kernel, by decide +kernel⟩
abbrev s_is_true : Stmt := topS 46
abbrev N_is_true : List Str := (["walk", "condition", "variable", "sign", "term", "value", "other"] : List Str)
theorem sc_is_true : FnScope N_is_true ["walk", "condition"] (defScope s_is_true) := ⟨rfl, rfl, rfl, by decide +kernel, rfl, by decide +kernel, by decide +kernel⟩
abbrev s_do_test : Stmt := topS 47
abbrev N_do_test : List Str := (["walk", "parts", "condition", "target"] : List Str)
theorem sc_do_test : FnScope N_do_test ["walk", "parts"] (defScope s_do_test) := ⟨rfl, rfl, rfl, by decide +kernel, rfl, by decide +kernel, by decide +kernel⟩
abbrev s_do_jump : Stmt := topS 48
abbrev N_do_jump : List Str := (["walk", "parts"] : List Str)
theorem sc_do_jump : FnScope N_do_jump ["walk", "parts"] (defScope s_do_jump) := ⟨rfl, rfl, rfl, by decide +kernel, rfl, by decide +kernel, by decide +kernel⟩
abbrev s_Run___init__ : Stmt := inClass (topS 50) 0
abbrev N_Run___init__ : List Str := (["self", "outcome", "asked", "answer", "length", "first", "second"] : List Str)
theorem sc_Run___init__ : FnScope N_Run___init__ ["self", "outcome", "asked", "answer", "length", "first", "second"] (defScope s_Run___init__) := ⟨rfl, rfl, rfl, by decide +kernel, rfl, by decide +kernel, by decide +kernel⟩
abbrev s_Run___eq__ : Stmt := inClass (topS 50) 1
abbrev N_Run___eq__ : List Str := (["self", "other"] : List Str)
theorem sc_Run___eq__ : FnScope N_Run___eq__ ["self", "other"] (defScope s_Run___eq__) := ⟨rfl, rfl, rfl, by decide +kernel, rfl, by decide +kernel, by decide +kernel⟩
abbrev s_follow : Stmt := topS 51
abbrev N_follow : List Str := (["walk", "limit", "seen"] : List Str)
theorem sc_follow : FnScope N_follow ["walk", "limit"] (defScope s_follow) := ⟨rfl, rfl, rfl, by decide +kernel, rfl, by decide +kernel, by decide +kernel⟩
abbrev s_run : Stmt := topS 52
abbrev N_run : List Str := (["program", "position", "members", "limit", "walk", "seen", "asked"] : List Str)
theorem sc_run : FnScope N_run ["program", "position", "members", "limit"] (defScope s_run) := ⟨rfl, rfl, rfl, by decide +kernel, rfl, by decide +kernel, by decide +kernel⟩
abbrev s__law_bag : Stmt := topS 54
abbrev N__law_bag : List Str := (["_law_script", "_law_k", "_law_cell", "_law_state"] : List Str)
theorem sc__law_bag : FnScope N__law_bag ["_law_script", "_law_k"] (defScope s__law_bag) := ⟨rfl, rfl, rfl, by decide +kernel, rfl, by decide +kernel, by decide +kernel⟩
abbrev s__law_draw : Stmt := topS 55
abbrev N__law_draw : List Str := (["_law_bag_here", "_law_many", "_law_found"] : List Str)
theorem sc__law_draw : FnScope N__law_draw ["_law_bag_here", "_law_many"] (defScope s__law_draw) := ⟨rfl, rfl, rfl, by decide +kernel, rfl, by decide +kernel, by decide +kernel⟩
abbrev s__law_large : Stmt := topS 56
abbrev N__law_large : List Str := (["_law_bag_here", "_law_many", "_law_number", "_law_room"] : List Str)
theorem sc__law_large : FnScope N__law_large ["_law_bag_here", "_law_many"] (defScope s__law_large) := ⟨rfl, rfl, rfl, by decide +kernel, rfl, by decide +kernel, by decide +kernel⟩
abbrev s__law_steps : Stmt := topS 57
abbrev N__law_steps : List Str := (["_law_bag_here"] : List Str)
theorem sc__law_steps : FnScope N__law_steps ["_law_bag_here"] (defScope s__law_steps) := ⟨rfl, rfl, rfl, by decide +kernel, rfl, by decide +kernel, by decide +kernel⟩
abbrev s__law_whole : Stmt := topS 58
abbrev N__law_whole : List Str := (["_law_thing"] : List Str)
theorem sc__law_whole : FnScope N__law_whole ["_law_thing"] (defScope s__law_whole) := ⟨rfl, rfl, rfl, by decide +kernel, rfl, by decide +kernel, by decide +kernel⟩
abbrev s__law_told : Stmt := topS 59
abbrev N__law_told : List Str := (["_law_found", "_law_numbers", "_law_number", "_law_place"] : List Str)
theorem sc__law_told : FnScope N__law_told ["_law_found"] (defScope s__law_told) := ⟨rfl, rfl, rfl, by decide +kernel, rfl, by decide +kernel, by decide +kernel⟩
abbrev s__law_rounds : Stmt := topS 60
abbrev N__law_rounds : List Str := (["_law_start", "_law_by", "_law_goal", "_law_value", "_law_count"] : List Str)
theorem sc__law_rounds : FnScope N__law_rounds ["_law_start", "_law_by", "_law_goal"] (defScope s__law_rounds) := ⟨rfl, rfl, rfl, by decide +kernel, rfl, by decide +kernel, by decide +kernel⟩
abbrev s__law_loop : Stmt := topS 61
abbrev N__law_loop : List Str := (["_law_bag_here", "_law_value", "_law_ahead", "_law_turn", "_law_part"] : List Str)
theorem sc__law_loop : FnScope N__law_loop ["_law_bag_here"] (defScope s__law_loop) := ⟨rfl, rfl, rfl, by decide +kernel, rfl, by decide +kernel, by decide +kernel⟩
abbrev s_law : Stmt := topS 62
abbrev N_law : List Str := (["_law_script", "_law_k", "_law_bag_here", "_law_ahead", "_law_spent", "_law_value", "_law_by", "_law_pause", "_law_position", "_law_sign", "_law_inner", "_law_rounds_here", "_law_values", "_law_asked", "_law_found", "_law_due", "_law_goal", "_law_count", "_law_body", "_law_told_here", "_law_turn", "_law_one"] : List Str)
theorem sc_law : FnScope N_law ["_law_script"] (defScope s_law) := ⟨rfl, rfl, rfl, by decide +kernel, rfl, by decide +kernel, by decide +kernel⟩
structure Txt (w : World) (K : PySem.W.Frag) (mg : Str → Option Value) : Prop where
  m_ValueError : mg "ValueError" = none
  m_len : mg "len" = none
  m_int : mg "int" = none
  m_sorted : mg "sorted" = none
  m_range : mg "range" = none
  m_isinstance : mg "isinstance" = none
  m_str : mg "str" = none
  m_sum : mg "sum" = none
  m_abs : mg "abs" = none
  m_list : mg "list" = none
  m_max : mg "max" = none
  m_bool : mg "bool" = none
  m_tuple : mg "tuple" = none
  m_all : mg "all" = none
  m_min : mg "min" = none
  c_MOST_STATEMENTS : ∃ t, mg "MOST_STATEMENTS" = some (.int 24 t)
  c_MOST_DEPTH : ∃ t, mg "MOST_DEPTH" = some (.int 4 t)
  c_LONGEST_WAIT : ∃ t, mg "LONGEST_WAIT" = some (.int 1000000000000000000000000000000 t)
  c_SIZE : ∃ t, mg "SIZE" = some (.int 16 t)
  g_VARIABLES : mg "VARIABLES" = some (.ref (He.ga K "VARIABLES"))
  t_VARIABLES : ∀ H : Hp, SqT K H (He.ga K "VARIABLES") [.str "a", .str "b"]
  g_COMPARISONS : mg "COMPARISONS" = some (.ref (He.ga K "COMPARISONS"))
  t_COMPARISONS : ∀ H : Hp, SqT K H (He.ga K "COMPARISONS") [.str "==", .str "!=", .str "<"]
  g_DIRECTIONS : mg "DIRECTIONS" = some (.ref (He.ga K "DIRECTIONS"))
  t_DIRECTIONS : ∀ H : Hp, SqT K H (He.ga K "DIRECTIONS") [.str "+", .str "-", .str "="]
  g_WORDS : mg "WORDS" = some (.ref (He.ga K "WORDS"))
  d_WORDS : DTab K w (He.ga K "WORDS") [("teller", .ref (tabAt "WORDS" "teller" K)), ("collector", .ref (tabAt "WORDS" "collector" K))]
  t_WORDS_teller : ∀ H : Hp, SqT K H (tabAt "WORDS" "teller" K) [.str "set", .str "add", .str "wait", .str "ask", .str "answer"]
  t_WORDS_collector : ∀ H : Hp, SqT K H (tabAt "WORDS" "collector" K) [.str "set", .str "add", .str "wait", .str "grow", .str "list"]
  g_BODIES : mg "BODIES" = some (.ref (He.ga K "BODIES"))
  d_BODIES : DTab K w (He.ga K "BODIES") [("if", .int 2), ("while", .int 1)]
  g_CHECKS : mg "CHECKS" = some (.ref (He.ga K "CHECKS"))
  d_CHECKS : DTab K w (He.ga K "CHECKS") [("set", .ref (He.ga K "is_set")), ("add", .ref (He.ga K "is_add")), ("wait", .ref (He.ga K "is_wait")), ("ask", .ref (He.ga K "is_ask")), ("answer", .ref (He.ga K "is_answer")), ("grow", .ref (He.ga K "is_one_term")), ("list", .ref (He.ga K "is_one_term"))]
  g_BLOCKS : mg "BLOCKS" = some (.ref (He.ga K "BLOCKS"))
  d_BLOCKS : DTab K w (He.ga K "BLOCKS") [("if", .ref (He.ga K "place_if")), ("while", .ref (He.ga K "place_while"))]
  g_ACTIONS : mg "ACTIONS" = some (.ref (He.ga K "ACTIONS"))
  d_ACTIONS : DTab K w (He.ga K "ACTIONS") [("set", .ref (He.ga K "do_set")), ("add", .ref (He.ga K "do_add")), ("wait", .ref (He.ga K "do_wait")), ("ask", .ref (He.ga K "do_ask")), ("answer", .ref (He.ga K "do_answer")), ("grow", .ref (He.ga K "do_grow")), ("list", .ref (He.ga K "do_list")), ("test", .ref (He.ga K "do_test")), ("jump", .ref (He.ga K "do_jump"))]
  g_is_integer : mg "is_integer" = some (.ref (He.ga K "is_integer"))
  F_is_integer : ∃ fd, FunD K "is_integer" "is_integer" (defArgs s_is_integer) (defBody s_is_integer) (defScope s_is_integer) [] [] (He.ga K "is_integer") fd
  g_is_one_of : mg "is_one_of" = some (.ref (He.ga K "is_one_of"))
  F_is_one_of : ∃ fd, FunD K "is_one_of" "is_one_of" (defArgs s_is_one_of) (defBody s_is_one_of) (defScope s_is_one_of) [] [] (He.ga K "is_one_of") fd
  g_is_value : mg "is_value" = some (.ref (He.ga K "is_value"))
  F_is_value : ∃ fd, FunD K "is_value" "is_value" (defArgs s_is_value) (defBody s_is_value) (defScope s_is_value) [] [] (He.ga K "is_value") fd
  g_is_term : mg "is_term" = some (.ref (He.ga K "is_term"))
  F_is_term : ∃ fd, FunD K "is_term" "is_term" (defArgs s_is_term) (defBody s_is_term) (defScope s_is_term) [] [] (He.ga K "is_term") fd
  g_is_condition : mg "is_condition" = some (.ref (He.ga K "is_condition"))
  F_is_condition : ∃ fd, FunD K "is_condition" "is_condition" (defArgs s_is_condition) (defBody s_is_condition) (defScope s_is_condition) [] [] (He.ga K "is_condition") fd
  g_is_set : mg "is_set" = some (.ref (He.ga K "is_set"))
  F_is_set : ∃ fd, FunD K "is_set" "is_set" (defArgs s_is_set) (defBody s_is_set) (defScope s_is_set) [] [] (He.ga K "is_set") fd
  g_is_add : mg "is_add" = some (.ref (He.ga K "is_add"))
  F_is_add : ∃ fd, FunD K "is_add" "is_add" (defArgs s_is_add) (defBody s_is_add) (defScope s_is_add) [] [] (He.ga K "is_add") fd
  g_is_wait : mg "is_wait" = some (.ref (He.ga K "is_wait"))
  F_is_wait : ∃ fd, FunD K "is_wait" "is_wait" (defArgs s_is_wait) (defBody s_is_wait) (defScope s_is_wait) [] [] (He.ga K "is_wait") fd
  g_is_ask : mg "is_ask" = some (.ref (He.ga K "is_ask"))
  F_is_ask : ∃ fd, FunD K "is_ask" "is_ask" (defArgs s_is_ask) (defBody s_is_ask) (defScope s_is_ask) [] [] (He.ga K "is_ask") fd
  g_is_answer : mg "is_answer" = some (.ref (He.ga K "is_answer"))
  F_is_answer : ∃ fd, FunD K "is_answer" "is_answer" (defArgs s_is_answer) (defBody s_is_answer) (defScope s_is_answer) [] [] (He.ga K "is_answer") fd
  g_is_one_term : mg "is_one_term" = some (.ref (He.ga K "is_one_term"))
  F_is_one_term : ∃ fd, FunD K "is_one_term" "is_one_term" (defArgs s_is_one_term) (defBody s_is_one_term) (defScope s_is_one_term) [] [] (He.ga K "is_one_term") fd
  g_count_block : mg "count_block" = some (.ref (He.ga K "count_block"))
  F_count_block : ∃ fd, FunD K "count_block" "count_block" (defArgs s_count_block) (defBody s_count_block) (defScope s_count_block) [] [] (He.ga K "count_block") fd
  g_count_statement : mg "count_statement" = some (.ref (He.ga K "count_statement"))
  F_count_statement : ∃ fd, FunD K "count_statement" "count_statement" (defArgs s_count_statement) (defBody s_count_statement) (defScope s_count_statement) [] [] (He.ga K "count_statement") fd
  g_count_body : mg "count_body" = some (.ref (He.ga K "count_body"))
  F_count_body : ∃ fd, FunD K "count_body" "count_body" (defArgs s_count_body) (defBody s_count_body) (defScope s_count_body) [] [] (He.ga K "count_body") fd
  g_is_program : mg "is_program" = some (.ref (He.ga K "is_program"))
  F_is_program : ∃ fd, FunD K "is_program" "is_program" (defArgs s_is_program) (defBody s_is_program) (defScope s_is_program) [] [] (He.ga K "is_program") fd
  g_check_program : mg "check_program" = some (.ref (He.ga K "check_program"))
  F_check_program : ∃ fd, FunD K "check_program" "check_program" (defArgs s_check_program) (defBody s_check_program) (defScope s_check_program) [] [("kind", .non)] (He.ga K "check_program") fd
  g_place_if : mg "place_if" = some (.ref (He.ga K "place_if"))
  F_place_if : ∃ fd, FunD K "place_if" "place_if" (defArgs s_place_if) (defBody s_place_if) (defScope s_place_if) [] [] (He.ga K "place_if") fd
  g_place_while : mg "place_while" = some (.ref (He.ga K "place_while"))
  F_place_while : ∃ fd, FunD K "place_while" "place_while" (defArgs s_place_while) (defBody s_place_while) (defScope s_place_while) [] [] (He.ga K "place_while") fd
  g_place_body : mg "place_body" = some (.ref (He.ga K "place_body"))
  F_place_body : ∃ fd, FunD K "place_body" "place_body" (defArgs s_place_body) (defBody s_place_body) (defScope s_place_body) [] [] (He.ga K "place_body") fd
  g_assemble : mg "assemble" = some (.ref (He.ga K "assemble"))
  F_assemble : ∃ fd, FunD K "assemble" "assemble" (defArgs s_assemble) (defBody s_assemble) (defScope s_assemble) [] [] (He.ga K "assemble") fd
  F_Walk___init__ : ∃ fd, FunD K "__init__" "Walk.__init__" (defArgs s_Walk___init__) (defBody s_Walk___init__) (defScope s_Walk___init__) [] [] (He.ma K (He.ga K "Walk") "__init__") fd
  F_Walk_term : ∃ fd, FunD K "term" "Walk.term" (defArgs s_Walk_term) (defBody s_Walk_term) (defScope s_Walk_term) [] [] (He.ma K (He.ga K "Walk") "term") fd
  F_Walk_state : ∃ fd, FunD K "state" "Walk.state" (defArgs s_Walk_state) (defBody s_Walk_state) (defScope s_Walk_state) [] [] (He.ma K (He.ga K "Walk") "state") fd
  F_Walk_is_over : ∃ fd, FunD K "is_over" "Walk.is_over" (defArgs s_Walk_is_over) (defBody s_Walk_is_over) (defScope s_Walk_is_over) [] [] (He.ma K (He.ga K "Walk") "is_over") fd
  F_Walk_next_cost : ∃ fd, FunD K "next_cost" "Walk.next_cost" (defArgs s_Walk_next_cost) (defBody s_Walk_next_cost) (defScope s_Walk_next_cost) [] [] (He.ma K (He.ga K "Walk") "next_cost") fd
  F_Walk_execute : ∃ fd, FunD K "execute" "Walk.execute" (defArgs s_Walk_execute) (defBody s_Walk_execute) (defScope s_Walk_execute) [] [] (He.ma K (He.ga K "Walk") "execute") fd
  g_do_set : mg "do_set" = some (.ref (He.ga K "do_set"))
  F_do_set : ∃ fd, FunD K "do_set" "do_set" (defArgs s_do_set) (defBody s_do_set) (defScope s_do_set) [] [] (He.ga K "do_set") fd
  g_do_add : mg "do_add" = some (.ref (He.ga K "do_add"))
  F_do_add : ∃ fd, FunD K "do_add" "do_add" (defArgs s_do_add) (defBody s_do_add) (defScope s_do_add) [] [] (He.ga K "do_add") fd
  g_do_wait : mg "do_wait" = some (.ref (He.ga K "do_wait"))
  F_do_wait : ∃ fd, FunD K "do_wait" "do_wait" (defArgs s_do_wait) (defBody s_do_wait) (defScope s_do_wait) [] [] (He.ga K "do_wait") fd
  g_do_ask : mg "do_ask" = some (.ref (He.ga K "do_ask"))
  F_do_ask : ∃ fd, FunD K "do_ask" "do_ask" (defArgs s_do_ask) (defBody s_do_ask) (defScope s_do_ask) [] [] (He.ga K "do_ask") fd
  g_do_answer : mg "do_answer" = some (.ref (He.ga K "do_answer"))
  F_do_answer : ∃ fd, FunD K "do_answer" "do_answer" (defArgs s_do_answer) (defBody s_do_answer) (defScope s_do_answer) [] [] (He.ga K "do_answer") fd
  g_do_grow : mg "do_grow" = some (.ref (He.ga K "do_grow"))
  F_do_grow : ∃ fd, FunD K "do_grow" "do_grow" (defArgs s_do_grow) (defBody s_do_grow) (defScope s_do_grow) [] [] (He.ga K "do_grow") fd
  g_do_list : mg "do_list" = some (.ref (He.ga K "do_list"))
  F_do_list : ∃ fd, FunD K "do_list" "do_list" (defArgs s_do_list) (defBody s_do_list) (defScope s_do_list) [] [] (He.ga K "do_list") fd
  g_is_true : mg "is_true" = some (.ref (He.ga K "is_true"))
  F_is_true : ∃ fd, FunD K "is_true" "is_true" (defArgs s_is_true) (defBody s_is_true) (defScope s_is_true) [] [] (He.ga K "is_true") fd
  g_do_test : mg "do_test" = some (.ref (He.ga K "do_test"))
  F_do_test : ∃ fd, FunD K "do_test" "do_test" (defArgs s_do_test) (defBody s_do_test) (defScope s_do_test) [] [] (He.ga K "do_test") fd
  g_do_jump : mg "do_jump" = some (.ref (He.ga K "do_jump"))
  F_do_jump : ∃ fd, FunD K "do_jump" "do_jump" (defArgs s_do_jump) (defBody s_do_jump) (defScope s_do_jump) [] [] (He.ga K "do_jump") fd
  F_Run___init__ : ∃ fd, FunD K "__init__" "Run.__init__" (defArgs s_Run___init__) (defBody s_Run___init__) (defScope s_Run___init__) [] [("answer", .non), ("length", .non), ("first", .non), ("second", .non)] (He.ma K (He.ga K "Run") "__init__") fd
  F_Run___eq__ : ∃ fd, FunD K "__eq__" "Run.__eq__" (defArgs s_Run___eq__) (defBody s_Run___eq__) (defScope s_Run___eq__) [] [] (He.ma K (He.ga K "Run") "__eq__") fd
  g_follow : mg "follow" = some (.ref (He.ga K "follow"))
  F_follow : ∃ fd, FunD K "follow" "follow" (defArgs s_follow) (defBody s_follow) (defScope s_follow) [] [] (He.ga K "follow") fd
  g_run : mg "run" = some (.ref (He.ga K "run"))
  F_run : ∃ fd, FunD K "run" "run" (defArgs s_run) (defBody s_run) (defScope s_run) [] [("limit", .non)] (He.ga K "run") fd
  g__law_bag : mg "_law_bag" = some (.ref (He.ga K "_law_bag"))
  F__law_bag : ∃ fd, FunD K "_law_bag" "_law_bag" (defArgs s__law_bag) (defBody s__law_bag) (defScope s__law_bag) [] [] (He.ga K "_law_bag") fd
  g__law_draw : mg "_law_draw" = some (.ref (He.ga K "_law_draw"))
  F__law_draw : ∃ fd, FunD K "_law_draw" "_law_draw" (defArgs s__law_draw) (defBody s__law_draw) (defScope s__law_draw) [] [] (He.ga K "_law_draw") fd
  g__law_large : mg "_law_large" = some (.ref (He.ga K "_law_large"))
  F__law_large : ∃ fd, FunD K "_law_large" "_law_large" (defArgs s__law_large) (defBody s__law_large) (defScope s__law_large) [] [] (He.ga K "_law_large") fd
  g__law_steps : mg "_law_steps" = some (.ref (He.ga K "_law_steps"))
  F__law_steps : ∃ fd, FunD K "_law_steps" "_law_steps" (defArgs s__law_steps) (defBody s__law_steps) (defScope s__law_steps) [] [] (He.ga K "_law_steps") fd
  g__law_whole : mg "_law_whole" = some (.ref (He.ga K "_law_whole"))
  F__law_whole : ∃ fd, FunD K "_law_whole" "_law_whole" (defArgs s__law_whole) (defBody s__law_whole) (defScope s__law_whole) [] [] (He.ga K "_law_whole") fd
  g__law_told : mg "_law_told" = some (.ref (He.ga K "_law_told"))
  F__law_told : ∃ fd, FunD K "_law_told" "_law_told" (defArgs s__law_told) (defBody s__law_told) (defScope s__law_told) [] [] (He.ga K "_law_told") fd
  g__law_rounds : mg "_law_rounds" = some (.ref (He.ga K "_law_rounds"))
  F__law_rounds : ∃ fd, FunD K "_law_rounds" "_law_rounds" (defArgs s__law_rounds) (defBody s__law_rounds) (defScope s__law_rounds) [] [] (He.ga K "_law_rounds") fd
  g__law_loop : mg "_law_loop" = some (.ref (He.ga K "_law_loop"))
  F__law_loop : ∃ fd, FunD K "_law_loop" "_law_loop" (defArgs s__law_loop) (defBody s__law_loop) (defScope s__law_loop) [] [] (He.ga K "_law_loop") fd
  g_law : mg "law" = some (.ref (He.ga K "law"))
  F_law : ∃ fd, FunD K "law" "law" (defArgs s_law) (defBody s_law) (defScope s_law) [] [] (He.ga K "law") fd
  g_HouseError : mg "HouseError" = some (.ref (He.ga K "HouseError"))
  g_BadProgram : mg "BadProgram" = some (.ref (He.ga K "BadProgram"))
  g_BadSteps : mg "BadSteps" = some (.ref (He.ga K "BadSteps"))
  g_Walk : mg "Walk" = some (.ref (He.ga K "Walk"))
  g_Run : mg "Run" = some (.ref (He.ga K "Run"))
  cl_Walk : Cls K (He.ga K "Walk")
  na_Walk_code : NoAttr K (He.ga K "Walk") "code"
  na_Walk_position : NoAttr K (He.ga K "Walk") "position"
  na_Walk_known : NoAttr K (He.ga K "Walk") "known"
  na_Walk_index : NoAttr K (He.ga K "Walk") "index"
  na_Walk_steps : NoAttr K (He.ga K "Walk") "steps"
  na_Walk_counter : NoAttr K (He.ga K "Walk") "counter"
  na_Walk_variables : NoAttr K (He.ga K "Walk") "variables"
  na_Walk_replied : NoAttr K (He.ga K "Walk") "replied"
  na_Walk_requested : NoAttr K (He.ga K "Walk") "requested"
  na_Walk_listed : NoAttr K (He.ga K "Walk") "listed"
  me_Walk_term : Meth K (He.ga K "Walk") "term" (He.ma K (He.ga K "Walk") "term")
  me_Walk_state : Meth K (He.ga K "Walk") "state" (He.ma K (He.ga K "Walk") "state")
  me_Walk_is_over : Meth K (He.ga K "Walk") "is_over" (He.ma K (He.ga K "Walk") "is_over")
  me_Walk_next_cost : Meth K (He.ga K "Walk") "next_cost" (He.ma K (He.ga K "Walk") "next_cost")
  me_Walk_execute : Meth K (He.ga K "Walk") "execute" (He.ma K (He.ga K "Walk") "execute")
  mk_Walk : Mk K (He.ga K "Walk") (He.ma K (He.ga K "Walk") "__init__")
  cl_Run : Cls K (He.ga K "Run")
  na_Run_outcome : NoAttr K (He.ga K "Run") "outcome"
  na_Run_asked : NoAttr K (He.ga K "Run") "asked"
  na_Run_answer : NoAttr K (He.ga K "Run") "answer"
  na_Run_length : NoAttr K (He.ga K "Run") "length"
  na_Run_first : NoAttr K (He.ga K "Run") "first"
  na_Run_second : NoAttr K (He.ga K "Run") "second"
  me_Run___eq__ : Meth K (He.ga K "Run") "__eq__" (He.ma K (He.ga K "Run") "__eq__")
  mk_Run : Mk K (He.ga K "Run") (He.ma K (He.ga K "Run") "__init__")
  oe_Run : OwnE K (He.ga K "Run") (He.ma K (He.ga K "Run") "__eq__")
  x_HouseError : ExcD K (He.ga K "HouseError") ve "ValueError.__new__"
  x_BadProgram : ExcD K (He.ga K "BadProgram") ve "ValueError.__new__"
  x_BadSteps : ExcD K (He.ga K "BadSteps") ve "ValueError.__new__"
  u_HouseError_HouseError : Und K (He.ga K "HouseError") (He.ga K "HouseError") true
  u_HouseError_BadProgram : Und K (He.ga K "HouseError") (He.ga K "BadProgram") false
  u_HouseError_BadSteps : Und K (He.ga K "HouseError") (He.ga K "BadSteps") false
  u_BadProgram_HouseError : Und K (He.ga K "BadProgram") (He.ga K "HouseError") true
  u_BadProgram_BadProgram : Und K (He.ga K "BadProgram") (He.ga K "BadProgram") true
  u_BadProgram_BadSteps : Und K (He.ga K "BadProgram") (He.ga K "BadSteps") false
  u_BadSteps_HouseError : Und K (He.ga K "BadSteps") (He.ga K "HouseError") true
  u_BadSteps_BadProgram : Und K (He.ga K "BadSteps") (He.ga K "BadProgram") false
  u_BadSteps_BadSteps : Und K (He.ga K "BadSteps") (He.ga K "BadSteps") true
end Nt

namespace Nt
open PySem PySem.Spec PyProof.Rows L2
def d_is_integer : He.DefD := ⟨("is_integer", none), "is_integer", "is_integer", defArgs s_is_integer, defBody s_is_integer, defScope s_is_integer, [], []⟩
def d_is_one_of : He.DefD := ⟨("is_one_of", none), "is_one_of", "is_one_of", defArgs s_is_one_of, defBody s_is_one_of, defScope s_is_one_of, [], []⟩
def d_is_value : He.DefD := ⟨("is_value", none), "is_value", "is_value", defArgs s_is_value, defBody s_is_value, defScope s_is_value, [], []⟩
def d_is_term : He.DefD := ⟨("is_term", none), "is_term", "is_term", defArgs s_is_term, defBody s_is_term, defScope s_is_term, [], []⟩
def d_is_condition : He.DefD := ⟨("is_condition", none), "is_condition", "is_condition", defArgs s_is_condition, defBody s_is_condition, defScope s_is_condition, [], []⟩
def d_is_set : He.DefD := ⟨("is_set", none), "is_set", "is_set", defArgs s_is_set, defBody s_is_set, defScope s_is_set, [], []⟩
def d_is_add : He.DefD := ⟨("is_add", none), "is_add", "is_add", defArgs s_is_add, defBody s_is_add, defScope s_is_add, [], []⟩
def d_is_wait : He.DefD := ⟨("is_wait", none), "is_wait", "is_wait", defArgs s_is_wait, defBody s_is_wait, defScope s_is_wait, [], []⟩
def d_is_ask : He.DefD := ⟨("is_ask", none), "is_ask", "is_ask", defArgs s_is_ask, defBody s_is_ask, defScope s_is_ask, [], []⟩
def d_is_answer : He.DefD := ⟨("is_answer", none), "is_answer", "is_answer", defArgs s_is_answer, defBody s_is_answer, defScope s_is_answer, [], []⟩
def d_is_one_term : He.DefD := ⟨("is_one_term", none), "is_one_term", "is_one_term", defArgs s_is_one_term, defBody s_is_one_term, defScope s_is_one_term, [], []⟩
def d_count_block : He.DefD := ⟨("count_block", none), "count_block", "count_block", defArgs s_count_block, defBody s_count_block, defScope s_count_block, [], []⟩
def d_count_statement : He.DefD := ⟨("count_statement", none), "count_statement", "count_statement", defArgs s_count_statement, defBody s_count_statement, defScope s_count_statement, [], []⟩
def d_count_body : He.DefD := ⟨("count_body", none), "count_body", "count_body", defArgs s_count_body, defBody s_count_body, defScope s_count_body, [], []⟩
def d_is_program : He.DefD := ⟨("is_program", none), "is_program", "is_program", defArgs s_is_program, defBody s_is_program, defScope s_is_program, [], []⟩
def d_check_program : He.DefD := ⟨("check_program", none), "check_program", "check_program", defArgs s_check_program, defBody s_check_program, defScope s_check_program, [], [("kind", .non)]⟩
def d_place_if : He.DefD := ⟨("place_if", none), "place_if", "place_if", defArgs s_place_if, defBody s_place_if, defScope s_place_if, [], []⟩
def d_place_while : He.DefD := ⟨("place_while", none), "place_while", "place_while", defArgs s_place_while, defBody s_place_while, defScope s_place_while, [], []⟩
def d_place_body : He.DefD := ⟨("place_body", none), "place_body", "place_body", defArgs s_place_body, defBody s_place_body, defScope s_place_body, [], []⟩
def d_assemble : He.DefD := ⟨("assemble", none), "assemble", "assemble", defArgs s_assemble, defBody s_assemble, defScope s_assemble, [], []⟩
def d_Walk___init__ : He.DefD := ⟨("Walk", some "__init__"), "__init__", "Walk.__init__", defArgs s_Walk___init__, defBody s_Walk___init__, defScope s_Walk___init__, [], []⟩
def d_Walk_term : He.DefD := ⟨("Walk", some "term"), "term", "Walk.term", defArgs s_Walk_term, defBody s_Walk_term, defScope s_Walk_term, [], []⟩
def d_Walk_state : He.DefD := ⟨("Walk", some "state"), "state", "Walk.state", defArgs s_Walk_state, defBody s_Walk_state, defScope s_Walk_state, [], []⟩
def d_Walk_is_over : He.DefD := ⟨("Walk", some "is_over"), "is_over", "Walk.is_over", defArgs s_Walk_is_over, defBody s_Walk_is_over, defScope s_Walk_is_over, [], []⟩
def d_Walk_next_cost : He.DefD := ⟨("Walk", some "next_cost"), "next_cost", "Walk.next_cost", defArgs s_Walk_next_cost, defBody s_Walk_next_cost, defScope s_Walk_next_cost, [], []⟩
def d_Walk_execute : He.DefD := ⟨("Walk", some "execute"), "execute", "Walk.execute", defArgs s_Walk_execute, defBody s_Walk_execute, defScope s_Walk_execute, [], []⟩
def d_do_set : He.DefD := ⟨("do_set", none), "do_set", "do_set", defArgs s_do_set, defBody s_do_set, defScope s_do_set, [], []⟩
def d_do_add : He.DefD := ⟨("do_add", none), "do_add", "do_add", defArgs s_do_add, defBody s_do_add, defScope s_do_add, [], []⟩
def d_do_wait : He.DefD := ⟨("do_wait", none), "do_wait", "do_wait", defArgs s_do_wait, defBody s_do_wait, defScope s_do_wait, [], []⟩
def d_do_ask : He.DefD := ⟨("do_ask", none), "do_ask", "do_ask", defArgs s_do_ask, defBody s_do_ask, defScope s_do_ask, [], []⟩
def d_do_answer : He.DefD := ⟨("do_answer", none), "do_answer", "do_answer", defArgs s_do_answer, defBody s_do_answer, defScope s_do_answer, [], []⟩
def d_do_grow : He.DefD := ⟨("do_grow", none), "do_grow", "do_grow", defArgs s_do_grow, defBody s_do_grow, defScope s_do_grow, [], []⟩
def d_do_list : He.DefD := ⟨("do_list", none), "do_list", "do_list", defArgs s_do_list, defBody s_do_list, defScope s_do_list, [], []⟩
def d_is_true : He.DefD := ⟨("is_true", none), "is_true", "is_true", defArgs s_is_true, defBody s_is_true, defScope s_is_true, [], []⟩
def d_do_test : He.DefD := ⟨("do_test", none), "do_test", "do_test", defArgs s_do_test, defBody s_do_test, defScope s_do_test, [], []⟩
def d_do_jump : He.DefD := ⟨("do_jump", none), "do_jump", "do_jump", defArgs s_do_jump, defBody s_do_jump, defScope s_do_jump, [], []⟩
def d_Run___init__ : He.DefD := ⟨("Run", some "__init__"), "__init__", "Run.__init__", defArgs s_Run___init__, defBody s_Run___init__, defScope s_Run___init__, [], [("answer", .non), ("length", .non), ("first", .non), ("second", .non)]⟩
def d_Run___eq__ : He.DefD := ⟨("Run", some "__eq__"), "__eq__", "Run.__eq__", defArgs s_Run___eq__, defBody s_Run___eq__, defScope s_Run___eq__, [], []⟩
def d_follow : He.DefD := ⟨("follow", none), "follow", "follow", defArgs s_follow, defBody s_follow, defScope s_follow, [], []⟩
def d_run : He.DefD := ⟨("run", none), "run", "run", defArgs s_run, defBody s_run, defScope s_run, [], [("limit", .non)]⟩
def d__law_bag : He.DefD := ⟨("_law_bag", none), "_law_bag", "_law_bag", defArgs s__law_bag, defBody s__law_bag, defScope s__law_bag, [], []⟩
def d__law_draw : He.DefD := ⟨("_law_draw", none), "_law_draw", "_law_draw", defArgs s__law_draw, defBody s__law_draw, defScope s__law_draw, [], []⟩
def d__law_large : He.DefD := ⟨("_law_large", none), "_law_large", "_law_large", defArgs s__law_large, defBody s__law_large, defScope s__law_large, [], []⟩
def d__law_steps : He.DefD := ⟨("_law_steps", none), "_law_steps", "_law_steps", defArgs s__law_steps, defBody s__law_steps, defScope s__law_steps, [], []⟩
def d__law_whole : He.DefD := ⟨("_law_whole", none), "_law_whole", "_law_whole", defArgs s__law_whole, defBody s__law_whole, defScope s__law_whole, [], []⟩
def d__law_told : He.DefD := ⟨("_law_told", none), "_law_told", "_law_told", defArgs s__law_told, defBody s__law_told, defScope s__law_told, [], []⟩
def d__law_rounds : He.DefD := ⟨("_law_rounds", none), "_law_rounds", "_law_rounds", defArgs s__law_rounds, defBody s__law_rounds, defScope s__law_rounds, [], []⟩
def d__law_loop : He.DefD := ⟨("_law_loop", none), "_law_loop", "_law_loop", defArgs s__law_loop, defBody s__law_loop, defScope s__law_loop, [], []⟩
def d_law : He.DefD := ⟨("law", none), "law", "law", defArgs s_law, defBody s_law, defScope s_law, [], []⟩
def fn : List He.DefD := ([d_is_integer, d_is_one_of, d_is_value, d_is_term, d_is_condition, d_is_set, d_is_add, d_is_wait, d_is_ask, d_is_answer, d_is_one_term, d_count_block, d_count_statement, d_count_body, d_is_program, d_check_program, d_place_if, d_place_while, d_place_body, d_assemble, d_Walk___init__, d_Walk_term, d_Walk_state, d_Walk_is_over, d_Walk_next_cost, d_Walk_execute, d_do_set, d_do_add, d_do_wait, d_do_ask] : List He.DefD) ++ ([d_do_answer, d_do_grow, d_do_list, d_is_true, d_do_test, d_do_jump, d_Run___init__, d_Run___eq__, d_follow, d_run, d__law_bag, d__law_draw, d__law_large, d__law_steps, d__law_whole, d__law_told, d__law_rounds, d__law_loop, d_law] : List He.DefD)
def fa : List He.Fa := ([.free "ValueError", .free "len", .free "int", .free "sorted", .free "range", .free "isinstance", .free "str", .free "sum", .free "abs", .free "list", .free "max", .free "bool", .free "tuple", .free "all", .free "min", .int "MOST_STATEMENTS" 24, .int "MOST_DEPTH" 4, .int "LONGEST_WAIT" 1000000000000000000000000000000, .int "SIZE" 16, .glo "VARIABLES", .glo "COMPARISONS", .glo "DIRECTIONS", .glo "WORDS", .glo "BODIES", .glo "CHECKS", .glo "BLOCKS", .glo "ACTIONS", .glo "is_integer", .glo "is_one_of", .glo "is_value"] : List He.Fa) ++ ([.glo "is_term", .glo "is_condition", .glo "is_set", .glo "is_add", .glo "is_wait", .glo "is_ask", .glo "is_answer", .glo "is_one_term", .glo "count_block", .glo "count_statement", .glo "count_body", .glo "is_program", .glo "check_program", .glo "place_if", .glo "place_while", .glo "place_body", .glo "assemble", .glo "do_set", .glo "do_add", .glo "do_wait", .glo "do_ask", .glo "do_answer", .glo "do_grow", .glo "do_list", .glo "is_true", .glo "do_test", .glo "do_jump", .glo "follow", .glo "run", .glo "_law_bag"] : List He.Fa) ++ ([.glo "_law_draw", .glo "_law_large", .glo "_law_steps", .glo "_law_whole", .glo "_law_told", .glo "_law_rounds", .glo "_law_loop", .glo "law", .glo "HouseError", .glo "BadProgram", .glo "BadSteps", .glo "Walk", .glo "Run", .cls "Walk", .noat "Walk" "code", .noat "Walk" "position", .noat "Walk" "known", .noat "Walk" "index", .noat "Walk" "steps", .noat "Walk" "counter", .noat "Walk" "variables", .noat "Walk" "replied", .noat "Walk" "requested", .noat "Walk" "listed", .meth "Walk" "term", .meth "Walk" "state", .meth "Walk" "is_over", .meth "Walk" "next_cost", .meth "Walk" "execute", .mkr "Walk"] : List He.Fa) ++ ([.cls "Run", .noat "Run" "outcome", .noat "Run" "asked", .noat "Run" "answer", .noat "Run" "length", .noat "Run" "first", .noat "Run" "second", .meth "Run" "__eq__", .mkr "Run"] : List He.Fa)
def ts : List He.Tab := ([(fun K => He.ga K "WORDS", ["teller", "collector"]), (fun K => He.ga K "BODIES", ["if", "while"]), (fun K => He.ga K "CHECKS", ["set", "add", "wait", "ask", "answer", "grow", "list"]), (fun K => He.ga K "BLOCKS", ["if", "while"]), (fun K => He.ga K "ACTIONS", ["set", "add", "wait", "ask", "answer", "grow", "list", "test", "jump"])] : List He.Tab)
def exs (K : PySem.W.Frag) : List Bool := ([(kTup K (He.ga K "VARIABLES") [.str "a", .str "b"]), (kTup K (He.ga K "COMPARISONS") [.str "==", .str "!=", .str "<"]), (kTup K (He.ga K "DIRECTIONS") [.str "+", .str "-", .str "="]), (kTab K (He.ga K "WORDS") [("teller", .adr (tabAt "WORDS" "teller")), ("collector", .adr (tabAt "WORDS" "collector"))]), (kTup K (tabAt "WORDS" "teller" K) [.str "set", .str "add", .str "wait", .str "ask", .str "answer"]), (kTup K (tabAt "WORDS" "collector" K) [.str "set", .str "add", .str "wait", .str "grow", .str "list"]), (kTab K (He.ga K "BODIES") [("if", .int 2), ("while", .int 1)]), (kTab K (He.ga K "CHECKS") [("set", .glo "is_set"), ("add", .glo "is_add"), ("wait", .glo "is_wait"), ("ask", .glo "is_ask"), ("answer", .glo "is_answer"), ("grow", .glo "is_one_term"), ("list", .glo "is_one_term")]), (kTab K (He.ga K "BLOCKS") [("if", .glo "place_if"), ("while", .glo "place_while")]), (kTab K (He.ga K "ACTIONS") [("set", .glo "do_set"), ("add", .glo "do_add"), ("wait", .glo "do_wait"), ("ask", .glo "do_ask"), ("answer", .glo "do_answer"), ("grow", .glo "do_grow"), ("list", .glo "do_list"), ("test", .glo "do_test"), ("jump", .glo "do_jump")]), (kExc K (He.ga K "HouseError") ve "ValueError.__new__"), (kExc K (He.ga K "BadProgram") ve "ValueError.__new__"), (kExc K (He.ga K "BadSteps") ve "ValueError.__new__"), (kOwnE K (He.ga K "Run") (He.ma K (He.ga K "Run") "__eq__")), (kUnd K (He.ga K "HouseError") (He.ga K "HouseError") true), (kUnd K (He.ga K "HouseError") (He.ga K "BadProgram") false), (kUnd K (He.ga K "HouseError") (He.ga K "BadSteps") false), (kUnd K (He.ga K "BadProgram") (He.ga K "HouseError") true), (kUnd K (He.ga K "BadProgram") (He.ga K "BadProgram") true), (kUnd K (He.ga K "BadProgram") (He.ga K "BadSteps") false), (kUnd K (He.ga K "BadSteps") (He.ga K "HouseError") true), (kUnd K (He.ga K "BadSteps") (He.ga K "BadProgram") false), (kUnd K (He.ga K "BadSteps") (He.ga K "BadSteps") true)] : List Bool)
def ex (K : PySem.W.Frag) : Bool := (exs K).all id
abbrev R : PySem.W.OpenRow := PySem.W.OpenLaw.row PySem.Challenge.rw_neithertells_k11_silent_runs
abbrev hk : PySem.W.Hook := He.hookX 5 fa fn ts [] ex
def ob (s : PySem.W.SharedT) : He.AlX := He.obsX 5 fa fn ts [] ex (HandSHeadRun.getT s)
theorem ob_eq (s : PySem.W.SharedT) : ob s = hk.obs s.abs := He.obsX_eq (HandSHeadRun.getT_eq s)
def looseN : List Str := (["__name__", "HouseError", "BadProgram", "BadSteps", "MOST_STATEMENTS", "MOST_DEPTH", "LONGEST_WAIT", "SIZE", "VARIABLES", "COMPARISONS", "DIRECTIONS", "WORDS", "BODIES", "is_integer", "is_one_of", "is_value", "is_term", "is_condition", "is_set", "is_add", "is_wait", "is_ask", "is_answer", "is_one_term", "CHECKS", "count_block", "count_statement", "count_body", "is_program", "check_program"] : List Str) ++ (["place_if", "place_while", "BLOCKS", "place_body", "assemble", "Walk", "do_set", "do_add", "do_wait", "do_ask", "do_answer", "do_grow", "do_list", "is_true", "do_test", "do_jump", "ACTIONS", "Run", "follow", "run", "_law_bag", "_law_draw", "_law_large", "_law_steps", "_law_whole", "_law_told", "_law_rounds", "_law_loop"] : List Str)
set_option maxHeartbeats 0 in
theorem runF (w : World) : HandSHeadRun.RunEq R (PySem.W.view R.prog [62]) hk ob 8000 looseN (w.withFollow "special-get-raises" false) := by intro os; kernel_rfl
set_option maxHeartbeats 0 in
theorem runT (w : World) : HandSHeadRun.RunEq R (PySem.W.view R.prog [62]) hk ob 8000 looseN (w.withFollow "special-get-raises" true) := by intro os; kernel_rfl
theorem run (w : World) : HandSHeadRun.RunEq R (PySem.W.view R.prog [62]) hk ob 8000 looseN w := PySem.W.byRow2 "special-get-raises" (P := fun w => HandSHeadRun.RunEq R (PySem.W.view R.prog [62]) hk ob 8000 looseN w) runF runT w
theorem ex_at {K : PySem.W.Frag} (h : ex K = true) (i : Nat) {b : Bool} (e : (exs K)[i]? = some b := by rfl) : b = true := by
  have h1 := List.all_eq_true.mp h b (List.mem_of_getElem? e)
  exact h1
theorem txt_mk {w : World} {K : PySem.W.Frag} {h : Heap} {mg : Str → Option Value} (X : K.In h) (G : h.Ns mainGlobals mg) (c : He.SaysX fa fn ts [] ex w h K) : Txt w K mg where
  m_ValueError := He.free_ok X G (c.t.d.fact 0)
  m_len := He.free_ok X G (c.t.d.fact 1)
  m_int := He.free_ok X G (c.t.d.fact 2)
  m_sorted := He.free_ok X G (c.t.d.fact 3)
  m_range := He.free_ok X G (c.t.d.fact 4)
  m_isinstance := He.free_ok X G (c.t.d.fact 5)
  m_str := He.free_ok X G (c.t.d.fact 6)
  m_sum := He.free_ok X G (c.t.d.fact 7)
  m_abs := He.free_ok X G (c.t.d.fact 8)
  m_list := He.free_ok X G (c.t.d.fact 9)
  m_max := He.free_ok X G (c.t.d.fact 10)
  m_bool := He.free_ok X G (c.t.d.fact 11)
  m_tuple := He.free_ok X G (c.t.d.fact 12)
  m_all := He.free_ok X G (c.t.d.fact 13)
  m_min := He.free_ok X G (c.t.d.fact 14)
  c_MOST_STATEMENTS := He.int_ok X G (c.t.d.fact 15)
  c_MOST_DEPTH := He.int_ok X G (c.t.d.fact 16)
  c_LONGEST_WAIT := He.int_ok X G (c.t.d.fact 17)
  c_SIZE := He.int_ok X G (c.t.d.fact 18)
  g_VARIABLES := He.glo_ok X G (c.t.d.fact 19)
  t_VARIABLES := kTup_ok (ex_at c.more 0 (b := (kTup K (He.ga K "VARIABLES") [.str "a", .str "b"])) rfl)
  g_COMPARISONS := He.glo_ok X G (c.t.d.fact 20)
  t_COMPARISONS := kTup_ok (ex_at c.more 1 (b := (kTup K (He.ga K "COMPARISONS") [.str "==", .str "!=", .str "<"])) rfl)
  g_DIRECTIONS := He.glo_ok X G (c.t.d.fact 21)
  t_DIRECTIONS := kTup_ok (ex_at c.more 2 (b := (kTup K (He.ga K "DIRECTIONS") [.str "+", .str "-", .str "="])) rfl)
  g_WORDS := He.glo_ok X G (c.t.d.fact 22)
  d_WORDS := kTab_ok (ex_at c.more 3 (b := (kTab K (He.ga K "WORDS") [("teller", .adr (tabAt "WORDS" "teller")), ("collector", .adr (tabAt "WORDS" "collector"))])) rfl) (c.t.tab 0 (t := (fun K => He.ga K "WORDS", ["teller", "collector"])) rfl)
  t_WORDS_teller := kTup_ok (ex_at c.more 4 (b := (kTup K (tabAt "WORDS" "teller" K) [.str "set", .str "add", .str "wait", .str "ask", .str "answer"])) rfl)
  t_WORDS_collector := kTup_ok (ex_at c.more 5 (b := (kTup K (tabAt "WORDS" "collector" K) [.str "set", .str "add", .str "wait", .str "grow", .str "list"])) rfl)
  g_BODIES := He.glo_ok X G (c.t.d.fact 23)
  d_BODIES := kTab_ok (ex_at c.more 6 (b := (kTab K (He.ga K "BODIES") [("if", .int 2), ("while", .int 1)])) rfl) (c.t.tab 1 (t := (fun K => He.ga K "BODIES", ["if", "while"])) rfl)
  g_CHECKS := He.glo_ok X G (c.t.d.fact 24)
  d_CHECKS := kTab_ok (ex_at c.more 7 (b := (kTab K (He.ga K "CHECKS") [("set", .glo "is_set"), ("add", .glo "is_add"), ("wait", .glo "is_wait"), ("ask", .glo "is_ask"), ("answer", .glo "is_answer"), ("grow", .glo "is_one_term"), ("list", .glo "is_one_term")])) rfl) (c.t.tab 2 (t := (fun K => He.ga K "CHECKS", ["set", "add", "wait", "ask", "answer", "grow", "list"])) rfl)
  g_BLOCKS := He.glo_ok X G (c.t.d.fact 25)
  d_BLOCKS := kTab_ok (ex_at c.more 8 (b := (kTab K (He.ga K "BLOCKS") [("if", .glo "place_if"), ("while", .glo "place_while")])) rfl) (c.t.tab 3 (t := (fun K => He.ga K "BLOCKS", ["if", "while"])) rfl)
  g_ACTIONS := He.glo_ok X G (c.t.d.fact 26)
  d_ACTIONS := kTab_ok (ex_at c.more 9 (b := (kTab K (He.ga K "ACTIONS") [("set", .glo "do_set"), ("add", .glo "do_add"), ("wait", .glo "do_wait"), ("ask", .glo "do_ask"), ("answer", .glo "do_answer"), ("grow", .glo "do_grow"), ("list", .glo "do_list"), ("test", .glo "do_test"), ("jump", .glo "do_jump")])) rfl) (c.t.tab 4 (t := (fun K => He.ga K "ACTIONS", ["set", "add", "wait", "ask", "answer", "grow", "list", "test", "jump"])) rfl)
  g_is_integer := He.glo_ok X G (c.t.d.fact 27)
  F_is_integer := c.t.d.def_ 0 (d := d_is_integer) rfl
  g_is_one_of := He.glo_ok X G (c.t.d.fact 28)
  F_is_one_of := c.t.d.def_ 1 (d := d_is_one_of) rfl
  g_is_value := He.glo_ok X G (c.t.d.fact 29)
  F_is_value := c.t.d.def_ 2 (d := d_is_value) rfl
  g_is_term := He.glo_ok X G (c.t.d.fact 30)
  F_is_term := c.t.d.def_ 3 (d := d_is_term) rfl
  g_is_condition := He.glo_ok X G (c.t.d.fact 31)
  F_is_condition := c.t.d.def_ 4 (d := d_is_condition) rfl
  g_is_set := He.glo_ok X G (c.t.d.fact 32)
  F_is_set := c.t.d.def_ 5 (d := d_is_set) rfl
  g_is_add := He.glo_ok X G (c.t.d.fact 33)
  F_is_add := c.t.d.def_ 6 (d := d_is_add) rfl
  g_is_wait := He.glo_ok X G (c.t.d.fact 34)
  F_is_wait := c.t.d.def_ 7 (d := d_is_wait) rfl
  g_is_ask := He.glo_ok X G (c.t.d.fact 35)
  F_is_ask := c.t.d.def_ 8 (d := d_is_ask) rfl
  g_is_answer := He.glo_ok X G (c.t.d.fact 36)
  F_is_answer := c.t.d.def_ 9 (d := d_is_answer) rfl
  g_is_one_term := He.glo_ok X G (c.t.d.fact 37)
  F_is_one_term := c.t.d.def_ 10 (d := d_is_one_term) rfl
  g_count_block := He.glo_ok X G (c.t.d.fact 38)
  F_count_block := c.t.d.def_ 11 (d := d_count_block) rfl
  g_count_statement := He.glo_ok X G (c.t.d.fact 39)
  F_count_statement := c.t.d.def_ 12 (d := d_count_statement) rfl
  g_count_body := He.glo_ok X G (c.t.d.fact 40)
  F_count_body := c.t.d.def_ 13 (d := d_count_body) rfl
  g_is_program := He.glo_ok X G (c.t.d.fact 41)
  F_is_program := c.t.d.def_ 14 (d := d_is_program) rfl
  g_check_program := He.glo_ok X G (c.t.d.fact 42)
  F_check_program := c.t.d.def_ 15 (d := d_check_program) rfl
  g_place_if := He.glo_ok X G (c.t.d.fact 43)
  F_place_if := c.t.d.def_ 16 (d := d_place_if) rfl
  g_place_while := He.glo_ok X G (c.t.d.fact 44)
  F_place_while := c.t.d.def_ 17 (d := d_place_while) rfl
  g_place_body := He.glo_ok X G (c.t.d.fact 45)
  F_place_body := c.t.d.def_ 18 (d := d_place_body) rfl
  g_assemble := He.glo_ok X G (c.t.d.fact 46)
  F_assemble := c.t.d.def_ 19 (d := d_assemble) rfl
  F_Walk___init__ := c.t.d.def_ 20 (d := d_Walk___init__) rfl
  F_Walk_term := c.t.d.def_ 21 (d := d_Walk_term) rfl
  F_Walk_state := c.t.d.def_ 22 (d := d_Walk_state) rfl
  F_Walk_is_over := c.t.d.def_ 23 (d := d_Walk_is_over) rfl
  F_Walk_next_cost := c.t.d.def_ 24 (d := d_Walk_next_cost) rfl
  F_Walk_execute := c.t.d.def_ 25 (d := d_Walk_execute) rfl
  g_do_set := He.glo_ok X G (c.t.d.fact 47)
  F_do_set := c.t.d.def_ 26 (d := d_do_set) rfl
  g_do_add := He.glo_ok X G (c.t.d.fact 48)
  F_do_add := c.t.d.def_ 27 (d := d_do_add) rfl
  g_do_wait := He.glo_ok X G (c.t.d.fact 49)
  F_do_wait := c.t.d.def_ 28 (d := d_do_wait) rfl
  g_do_ask := He.glo_ok X G (c.t.d.fact 50)
  F_do_ask := c.t.d.def_ 29 (d := d_do_ask) rfl
  g_do_answer := He.glo_ok X G (c.t.d.fact 51)
  F_do_answer := c.t.d.def_ 30 (d := d_do_answer) rfl
  g_do_grow := He.glo_ok X G (c.t.d.fact 52)
  F_do_grow := c.t.d.def_ 31 (d := d_do_grow) rfl
  g_do_list := He.glo_ok X G (c.t.d.fact 53)
  F_do_list := c.t.d.def_ 32 (d := d_do_list) rfl
  g_is_true := He.glo_ok X G (c.t.d.fact 54)
  F_is_true := c.t.d.def_ 33 (d := d_is_true) rfl
  g_do_test := He.glo_ok X G (c.t.d.fact 55)
  F_do_test := c.t.d.def_ 34 (d := d_do_test) rfl
  g_do_jump := He.glo_ok X G (c.t.d.fact 56)
  F_do_jump := c.t.d.def_ 35 (d := d_do_jump) rfl
  F_Run___init__ := c.t.d.def_ 36 (d := d_Run___init__) rfl
  F_Run___eq__ := c.t.d.def_ 37 (d := d_Run___eq__) rfl
  g_follow := He.glo_ok X G (c.t.d.fact 57)
  F_follow := c.t.d.def_ 38 (d := d_follow) rfl
  g_run := He.glo_ok X G (c.t.d.fact 58)
  F_run := c.t.d.def_ 39 (d := d_run) rfl
  g__law_bag := He.glo_ok X G (c.t.d.fact 59)
  F__law_bag := c.t.d.def_ 40 (d := d__law_bag) rfl
  g__law_draw := He.glo_ok X G (c.t.d.fact 60)
  F__law_draw := c.t.d.def_ 41 (d := d__law_draw) rfl
  g__law_large := He.glo_ok X G (c.t.d.fact 61)
  F__law_large := c.t.d.def_ 42 (d := d__law_large) rfl
  g__law_steps := He.glo_ok X G (c.t.d.fact 62)
  F__law_steps := c.t.d.def_ 43 (d := d__law_steps) rfl
  g__law_whole := He.glo_ok X G (c.t.d.fact 63)
  F__law_whole := c.t.d.def_ 44 (d := d__law_whole) rfl
  g__law_told := He.glo_ok X G (c.t.d.fact 64)
  F__law_told := c.t.d.def_ 45 (d := d__law_told) rfl
  g__law_rounds := He.glo_ok X G (c.t.d.fact 65)
  F__law_rounds := c.t.d.def_ 46 (d := d__law_rounds) rfl
  g__law_loop := He.glo_ok X G (c.t.d.fact 66)
  F__law_loop := c.t.d.def_ 47 (d := d__law_loop) rfl
  g_law := He.glo_ok X G (c.t.d.fact 67)
  F_law := c.t.d.def_ 48 (d := d_law) rfl
  g_HouseError := He.glo_ok X G (c.t.d.fact 68)
  g_BadProgram := He.glo_ok X G (c.t.d.fact 69)
  g_BadSteps := He.glo_ok X G (c.t.d.fact 70)
  g_Walk := He.glo_ok X G (c.t.d.fact 71)
  g_Run := He.glo_ok X G (c.t.d.fact 72)
  cl_Walk := He.cls_ok (c.t.d.fact 73)
  na_Walk_code := He.noat_ok (c.t.d.fact 74)
  na_Walk_position := He.noat_ok (c.t.d.fact 75)
  na_Walk_known := He.noat_ok (c.t.d.fact 76)
  na_Walk_index := He.noat_ok (c.t.d.fact 77)
  na_Walk_steps := He.noat_ok (c.t.d.fact 78)
  na_Walk_counter := He.noat_ok (c.t.d.fact 79)
  na_Walk_variables := He.noat_ok (c.t.d.fact 80)
  na_Walk_replied := He.noat_ok (c.t.d.fact 81)
  na_Walk_requested := He.noat_ok (c.t.d.fact 82)
  na_Walk_listed := He.noat_ok (c.t.d.fact 83)
  me_Walk_term := He.meth_ok (c.t.d.fact 84)
  me_Walk_state := He.meth_ok (c.t.d.fact 85)
  me_Walk_is_over := He.meth_ok (c.t.d.fact 86)
  me_Walk_next_cost := He.meth_ok (c.t.d.fact 87)
  me_Walk_execute := He.meth_ok (c.t.d.fact 88)
  mk_Walk := He.mkr_ok (c.t.d.fact 89)
  cl_Run := He.cls_ok (c.t.d.fact 90)
  na_Run_outcome := He.noat_ok (c.t.d.fact 91)
  na_Run_asked := He.noat_ok (c.t.d.fact 92)
  na_Run_answer := He.noat_ok (c.t.d.fact 93)
  na_Run_length := He.noat_ok (c.t.d.fact 94)
  na_Run_first := He.noat_ok (c.t.d.fact 95)
  na_Run_second := He.noat_ok (c.t.d.fact 96)
  me_Run___eq__ := He.meth_ok (c.t.d.fact 97)
  mk_Run := He.mkr_ok (c.t.d.fact 98)
  oe_Run := kOwnE_ok (ex_at c.more 13 (b := (kOwnE K (He.ga K "Run") (He.ma K (He.ga K "Run") "__eq__"))) rfl)
  x_HouseError := kExc_ok (ex_at c.more 10 (b := (kExc K (He.ga K "HouseError") ve "ValueError.__new__")) rfl)
  x_BadProgram := kExc_ok (ex_at c.more 11 (b := (kExc K (He.ga K "BadProgram") ve "ValueError.__new__")) rfl)
  x_BadSteps := kExc_ok (ex_at c.more 12 (b := (kExc K (He.ga K "BadSteps") ve "ValueError.__new__")) rfl)
  u_HouseError_HouseError := kUnd_ok (ex_at c.more 14 (b := (kUnd K (He.ga K "HouseError") (He.ga K "HouseError") true)) rfl)
  u_HouseError_BadProgram := kUnd_ok (ex_at c.more 15 (b := (kUnd K (He.ga K "HouseError") (He.ga K "BadProgram") false)) rfl)
  u_HouseError_BadSteps := kUnd_ok (ex_at c.more 16 (b := (kUnd K (He.ga K "HouseError") (He.ga K "BadSteps") false)) rfl)
  u_BadProgram_HouseError := kUnd_ok (ex_at c.more 17 (b := (kUnd K (He.ga K "BadProgram") (He.ga K "HouseError") true)) rfl)
  u_BadProgram_BadProgram := kUnd_ok (ex_at c.more 18 (b := (kUnd K (He.ga K "BadProgram") (He.ga K "BadProgram") true)) rfl)
  u_BadProgram_BadSteps := kUnd_ok (ex_at c.more 19 (b := (kUnd K (He.ga K "BadProgram") (He.ga K "BadSteps") false)) rfl)
  u_BadSteps_HouseError := kUnd_ok (ex_at c.more 20 (b := (kUnd K (He.ga K "BadSteps") (He.ga K "HouseError") true)) rfl)
  u_BadSteps_BadProgram := kUnd_ok (ex_at c.more 21 (b := (kUnd K (He.ga K "BadSteps") (He.ga K "BadProgram") false)) rfl)
  u_BadSteps_BadSteps := kUnd_ok (ex_at c.more 22 (b := (kUnd K (He.ga K "BadSteps") (He.ga K "BadSteps") true)) rfl)
end Nt

namespace Nt
open PySem PySem.Spec PyProof.Rows L2 Evl
/-! ### texts: str of an int or a text; a comprehension with two fors; += of lists -/
def rStrA : List V → Hp → VK → Prop := fun xs H Q => (∃ i : Int, xs = [.int i] ∧ i.natAbs.log2 < 1920 ∧ Q (.str (toString i)) H) ∨ ∃ a, xs = [.str a] ∧ Q (.str a) H
theorem call_strA {X : Cx} : CallR X (.type "str") rStrA := by
  intro pins s σ H xs us Q I r h
  rcases h with h | h
  · exact call_str_int pins s σ H xs us Q I r h
  · exact SkE.call_str_str pins s σ H xs us Q I r h
theorem take_S {α : Type} {l : List α} {i : Nat} {x : α} (h : l[i]? = some x) : l.take (i + 1) = l.take i ++ [x] := by
  have hlt : i < l.length := by
    rcases Nat.lt_or_ge i l.length with q | q
    · exact q
    · rw [List.getElem?_eq_none q] at h; cases h
  rw [List.getElem?_eq_getElem hlt] at h
  cases h
  exact (List.take_append_getElem hlt).symm
theorem flatten_len {α : Type} : ∀ (l : List (List α)) (i : Nat), (l.take i).flatten.length ≤ l.flatten.length
  | [], i => by rw [List.take_nil]; exact Nat.le_refl _
  | x :: l, 0 => by rw [List.take_zero]; exact Nat.zero_le _
  | x :: l, i + 1 => by
    rw [List.take_succ_cons, List.flatten_cons, List.flatten_cons, List.length_append, List.length_append]
    have := flatten_len l i
    omega
section
variable {K : PySem.W.Frag} {σ : L2.St} {H : Hp} {tl ti : TE}
theorem el_lc2 {a : Addr} {xs : List V} {yss : List (List V)} {j k : Nat} {vs vs1 : List Nat} (h : Ev tl σ H (.ref a)) (hx : SqT K H a xs) (hl : yss.length = xs.length) (hz : yss.flatten.length ≤ 40000)
    (hw : ∀ x, wipe ((wipe σ vs).set j (some x)) vs = wipe σ vs) (hw1 : ∀ x y, wipe ((wipe ((wipe σ vs).set j (some x)) vs1).set k (some y)) vs1 = wipe ((wipe σ vs).set j (some x)) vs1) (hk : ∀ x y, ((wipe ((wipe σ vs).set j (some x)) vs1).set k (some y))[k]? = some (some y))
    (hi : ∀ (i : Nat) (x : V) (ys : List V) H1, Ex H H1 → xs[i]? = some x → yss[i]? = some ys → EvL ti ((wipe σ vs).set j (some x)) H1 ys) :
    EvL (tLc2 (iTup K tl) (gName j) tYes (iList K ti) (gName k) tYes (tVar k) vs vs1) σ H yss.flatten := fun H0 e Q q => h H0 e _ fun H1 e1 => ⟨a, rfl, ⟨xs, ex_t (e.trans e1) hx⟩, fun D hD => by
  have e01 := e.trans e1
  refine ⟨fun i m H' => m = xs.length - i ∧ i ≤ xs.length ∧ Ex H1 H' ∧ H' D = some (.lst (yss.take i).flatten), ⟨xs.length, by simp, Nat.zero_le _, Ex.new hD, by rw [List.take_zero]; exact upd_same⟩, ?_⟩
  rintro i m H' ⟨rfl, hi', p1, p2⟩
  have hx' := ex_t (e01.trans p1) hx
  by_cases hlt : i < xs.length
  · have hys : yss[i]? = some yss[i] := List.getElem?_eq_getElem (by rw [hl]; exact hlt)
    generalize yss[i] = ys at hys
    have htk := take_S hys
    have hfl : (yss.take (i + 1)).flatten = (yss.take i).flatten ++ ys := by rw [htk, List.flatten_append, List.flatten_singleton]
    refine .inr ⟨⟨xs, xs[i], hx', by simp [hlt]⟩, fun H2 => Ex H1 H2 ∧ H2 D = some (.lst (yss.take (i + 1)).flatten), fun H2 p => ⟨xs.length - (i + 1), by omega, rfl, hlt, p.1, p.2⟩, fun x H2 y => ?_⟩
    obtain ⟨e2, y⟩ := y
    subst e2
    have hxi := y xs hx'
    refine ⟨hw x, ?_⟩
    dsimp only [tYes]
    rw [if_pos rfl]
    refine hi i x ys H2 (e01.trans p1) hxi hys H2 (Ex.refl _) _ fun p H3 hp e3 hp3 => ?_
    refine ⟨p, rfl, ⟨ys, sq_of hp3⟩, ?_⟩
    have hne : D ≠ p := fun z => by rw [z] at p2; rw [hp] at p2; cases p2
    have hD3 := e3 _ _ p2
    refine ⟨fun j' m' H4 => m' = ys.length - j' ∧ j' ≤ ys.length ∧ Ex H1 H4 ∧ H4 p = some (.lst ys) ∧ H4 D = some (.lst ((yss.take i).flatten ++ ys.take j')), ⟨ys.length, by simp, Nat.zero_le _, p1.trans e3, hp3, by rw [List.take_zero, List.append_nil]; exact hD3⟩, ?_⟩
    rintro j' m' H4 ⟨rfl, hj, q1, q2, q3⟩
    by_cases hjl : j' < ys.length
    · refine .inr ⟨⟨ys, ys[j'], sq_of q2, by simp [hjl]⟩, fun H5 => Ex H1 H5 ∧ H5 p = some (.lst ys) ∧ H5 D = some (.lst ((yss.take i).flatten ++ ys.take (j' + 1))), fun H5 r => ⟨ys.length - (j' + 1), by omega, rfl, hjl, r.1, r.2.1, r.2.2⟩, fun z H5 yl => ?_⟩
      obtain ⟨e5, yl⟩ := yl
      subst e5
      have hz' := yl ys (sq_of q2)
      refine ⟨hw1 x z, ?_⟩
      dsimp only [tYes]
      rw [if_pos rfl]
      refine ⟨z, hk x z, (yss.take i).flatten ++ ys.take j', q3, sz_lt ?_, ?_, ?_, ?_⟩
      · have h1 := flatten_len yss (i + 1)
        rw [hfl, List.length_append] at h1
        rw [List.length_append, List.length_take]
        omega
      · exact fun b o hb => by
          have hbD : b ≠ D := ne_of_none hb hD
          rw [upd_ne hbD]; exact q1 b o hb
      · rw [upd_ne hne.symm]; exact q2
      · rw [take_S hz', ← List.append_assoc]; exact upd_same
    · have ej : j' = ys.length := by omega
      subst ej
      refine .inl ⟨⟨ys, sq_of q2, Nat.le_refl _⟩, q1, ?_⟩
      rw [hfl]
      rw [List.take_length] at q3
      exact q3
  · have ei : i = xs.length := by omega
    subst ei
    refine .inl ⟨⟨xs, hx', Nat.le_refl _⟩, ?_⟩
    rw [← hl, List.take_length] at p2
    exact q D H' (fresh_back e1 hD) (e1.trans p1) p2⟩
end
end Nt

namespace Nt
open PySem PySem.Spec PyProof.Rows L2 Evl
/-! ### a plain store: what the heap holds, by numbers -/
inductive Vl where
  | non | bl (b : Bool) | int (i : Int) | str (s : Str) | tup (xs : List Vl) | ktp (xs : List Vl) | ref (i : Nat) | fn (k : Nat) | ty (n : String) | scr (ns : List Int)
inductive Ob where
  | lst (xs : List Vl) | dk (kvs : List (Key × Vl)) | dt (kvs : List (List Key × Vl)) | ins (c : Nat) (fs : List (Nat × Vl)) | xd (fs : List (Nat × Vl))
abbrev Sto := List Ob
abbrev En := List (Option Vl)
inductive Out (α : Type) where
  | ok (a : α) (S : Sto)
  | err (c : Nat) (x : Option Nat) (S : Sto)
  | bad
def Out.bind {α β : Type} (o : Out α) (f : α → Sto → Out β) : Out β := match o with
  | .ok a S => f a S
  | .err c x S => .err c x S
  | .bad => .bad
@[simp] theorem Out.bind_ok {α β : Type} {a : α} {S : Sto} {f : α → Sto → Out β} : (Out.ok a S).bind f = f a S := rfl
@[simp] theorem Out.bind_err {α β : Type} {c : Nat} {x : Option Nat} {S : Sto} {f : α → Sto → Out β} : (Out.err c x S : Out α).bind f = .err c x S := rfl
@[simp] theorem Out.bind_bad {α β : Type} {f : α → Sto → Out β} : (Out.bad : Out α).bind f = .bad := rfl
/-- the names that are told by numbers: what stands in a module, a class's fields -/
structure Nms where
  g : Nat → Str
  f : Nat → Str
  fi : ∀ i j, f i = f j → i = j
  xh : Option (Nat × Addr)
/-- the slot does not hold a caught exception -/
def Nms.fr (N : Nms) (i : Nat) : Prop := ∀ a, N.xh ≠ some (i, a)
theorem Nms.fr0 {N : Nms} {i : Nat} (h : N.xh = none) : N.fr i := fun a e => by rw [h] at e; cases e
/-- the same names, where the slot i holds the exception at a -/
abbrev Nms.hld (N : Nms) (i : Nat) (a : Addr) : Nms := { N with xh := some (i, a) }
theorem Nms.frh {N : Nms} {i j : Nat} {a : Addr} (h : (i == j) = false) : (N.hld i a).fr j := fun b e => by
  injection e with e
  injection e with e _
  rw [e] at h
  simp at h
/-- the script's list -/
def SqF (K : PySem.W.Frag) (H : Hp) (a : Addr) (xs : List V) : Prop := (∃ o, H a = some (.frz o (.lst xs))) ∨
  ∃ (o : Obj) (its : Array Value) (n : Nat), K.lookup a = some o ∧ o.cls = .type "list" ∧ o.dict = none ∧ o.data = .seq its n ∧ its.size ≤ sizeLine ∧ Vals xs its.toList
theorem SqF.l {K : PySem.W.Frag} {H : Hp} {a : Addr} {xs : List V} (h : SqF K H a xs) : SqL K H a xs := by
  rcases h with ⟨o, h⟩ | h
  · exact .inl (.inr ⟨o, h⟩)
  · exact .inr h
mutual
inductive Vr (N : Nms) (K : PySem.W.Frag) (m : List Addr) (H : Hp) : Vl → V → Prop
  | non : Vr N K m H .non .non
  | bl (b : Bool) : Vr N K m H (.bl b) (.bl b)
  | int (i : Int) : Vr N K m H (.int i) (.int i)
  | str (s : Str) : Vr N K m H (.str s) (.str s)
  | ty (n : String) : Vr N K m H (.ty n) (.ty n)
  | tup {a : Addr} {ys : List V} {xs : List Vl} : H a = some (.tup ys) → Vrs N K m H xs ys → Vr N K m H (.tup xs) (.ref a)
  | ktp {a : Addr} {ys : List V} {xs : List Vl} : SqT K H a ys → Vrs N K m H xs ys → Vr N K m H (.ktp xs) (.ref a)
  | ref {i : Nat} {a : Addr} : m[i]? = some a → Vr N K m H (.ref i) (.ref a)
  | fn (k : Nat) : Vr N K m H (.fn k) (.ref (He.ga K (N.g k)))
  | scr {a : Addr} {ns : List Int} : SqF K H a (ns.map V.int) → Vr N K m H (.scr ns) (.ref a)
inductive Vrs (N : Nms) (K : PySem.W.Frag) (m : List Addr) (H : Hp) : List Vl → List V → Prop
  | nil : Vrs N K m H [] []
  | cons {x : Vl} {u : V} {xs : List Vl} {us : List V} : Vr N K m H x u → Vrs N K m H xs us → Vrs N K m H (x :: xs) (u :: us)
end
structure Ext (K : PySem.W.Frag) (m : List Addr) (H : Hp) (m' : List Addr) (H' : Hp) : Prop where
  pre : ∀ (i : Nat) (a : Addr), m[i]? = some a → m'[i]? = some a
  tup : ∀ a xs, H a = some (.tup xs) → H' a = some (.tup xs)
  ktp : ∀ a xs, SqT K H a xs → SqT K H' a xs
  scr : ∀ a xs, SqF K H a xs → SqF K H' a xs
section
variable {N : Nms} {K : PySem.W.Frag} {m m' m1 m2 : List Addr} {H H' H1 H2 : Hp}
theorem Ext.refl : Ext K m H m H := ⟨fun _ _ h => h, fun _ _ h => h, fun _ _ h => h, fun _ _ h => h⟩
theorem Ext.trans (a : Ext K m H m1 H1) (b : Ext K m1 H1 m2 H2) : Ext K m H m2 H2 := ⟨fun i x h => b.pre i x (a.pre i x h), fun i x h => b.tup i x (a.tup i x h), fun i x h => b.ktp i x (a.ktp i x h), fun i x h => b.scr i x (a.scr i x h)⟩
mutual
theorem Vr.mono (e : Ext K m H m' H') : ∀ {x : Vl} {u : V}, Vr N K m H x u → Vr N K m' H' x u
  | _, _, .non => .non
  | _, _, .bl b => .bl b
  | _, _, .int b => .int b
  | _, _, .str b => .str b
  | _, _, .ty b => .ty b
  | _, _, .tup h r => .tup (e.tup _ _ h) (Vrs.mono e r)
  | _, _, .ktp h r => .ktp (e.ktp _ _ h) (Vrs.mono e r)
  | _, _, .ref h => .ref (e.pre _ _ h)
  | _, _, .fn k => .fn k
  | _, _, .scr h => .scr (e.scr _ _ h)
theorem Vrs.mono (e : Ext K m H m' H') : ∀ {x : List Vl} {u : List V}, Vrs N K m H x u → Vrs N K m' H' x u
  | _, _, .nil => .nil
  | _, _, .cons h r => .cons (Vr.mono e h) (Vrs.mono e r)
end
theorem Vrs.len : ∀ {x : List Vl} {u : List V}, Vrs N K m H x u → x.length = u.length
  | _, _, .nil => rfl
  | _, _, .cons _ r => congrArg Nat.succ (Vrs.len r)
theorem Vrs.get : ∀ {x : List Vl} {u : List V} {i : Nat} {v : Vl}, Vrs N K m H x u → x[i]? = some v → ∃ w, u[i]? = some w ∧ Vr N K m H v w
  | _, _, 0, _, .cons h _, e => by cases e; exact ⟨_, rfl, h⟩
  | _, _, i + 1, _, .cons _ r, e => Vrs.get (i := i) r e
theorem Vrs.get' : ∀ {x : List Vl} {u : List V} {i : Nat} {w : V}, Vrs N K m H x u → u[i]? = some w → ∃ v, x[i]? = some v ∧ Vr N K m H v w
  | _, _, 0, _, .cons h _, e => by cases e; exact ⟨_, rfl, h⟩
  | _, _, i + 1, _, .cons _ r, e => Vrs.get' (i := i) r e
theorem Vrs.append : ∀ {x y : List Vl} {u w : List V}, Vrs N K m H x u → Vrs N K m H y w → Vrs N K m H (x ++ y) (u ++ w)
  | _, _, _, _, .nil, h => h
  | _, _, _, _, .cons h r, k => .cons h (Vrs.append r k)
theorem Vrs.set : ∀ {x : List Vl} {u : List V} (i : Nat) {v : Vl} {w : V}, Vrs N K m H x u → Vr N K m H v w → Vrs N K m H (x.set i v) (u.set i w)
  | _, _, _, _, _, .nil, _ => .nil
  | _, _, 0, _, _, .cons _ r, k => .cons k r
  | _, _, i + 1, _, _, .cons h r, k => .cons h (Vrs.set i r k)
theorem Vrs.take : ∀ {x : List Vl} {u : List V} (n : Nat), Vrs N K m H x u → Vrs N K m H (x.take n) (u.take n)
  | _, _, 0, _ => .nil
  | _, _, _ + 1, .nil => .nil
  | _, _, n + 1, .cons h r => .cons h (Vrs.take n r)
theorem Vrs.drop : ∀ {x : List Vl} {u : List V} (n : Nat), Vrs N K m H x u → Vrs N K m H (x.drop n) (u.drop n)
  | _, _, 0, h => h
  | _, _, _ + 1, .nil => .nil
  | _, _, n + 1, .cons h r => Vrs.drop n r
theorem Vrs.reverse : ∀ {x : List Vl} {u : List V}, Vrs N K m H x u → Vrs N K m H x.reverse u.reverse
  | _, _, .nil => .nil
  | _, _, .cons h r => by
    rw [List.reverse_cons, List.reverse_cons]
    exact Vrs.append (Vrs.reverse r) (.cons h .nil)
theorem Vrs.ints : ∀ {u : List V} {ns : List Int}, Vrs N K m H (ns.map Vl.int) u → u = ns.map V.int
  | _, [], .nil => rfl
  | _, n :: ns, .cons h r => by
    cases h
    rw [Vrs.ints r]
    rfl
theorem Vrs.ofInts : ∀ (ns : List Int), Vrs N K m H (ns.map Vl.int) (ns.map V.int)
  | [] => .nil
  | n :: ns => .cons (.int n) (Vrs.ofInts ns)
end
/-- pairs of a key and a value -/
inductive KR (N : Nms) (K : PySem.W.Frag) (m : List Addr) (H : Hp) {κ : Type} : List (κ × Vl) → List (κ × V) → Prop
  | nil : KR N K m H [] []
  | cons {k : κ} {x : Vl} {u : V} {xs : List (κ × Vl)} {us : List (κ × V)} : Vr N K m H x u → KR N K m H xs us → KR N K m H ((k, x) :: xs) ((k, u) :: us)
/-- fields -/
inductive FR (N : Nms) (K : PySem.W.Frag) (m : List Addr) (H : Hp) : List (Nat × Vl) → List (Str × V) → Prop
  | nil : FR N K m H [] []
  | cons {k : Nat} {x : Vl} {u : V} {xs : List (Nat × Vl)} {us : List (Str × V)} : Vr N K m H x u → FR N K m H xs us → FR N K m H ((k, x) :: xs) ((N.f k, u) :: us)
inductive ObR (N : Nms) (K : PySem.W.Frag) (m : List Addr) (H : Hp) : Ob → HO → Prop
  | lst {xs : List Vl} {ys : List V} : Vrs N K m H xs ys → ObR N K m H (.lst xs) (.lst ys)
  | dk {xs : List (Key × Vl)} {ys : List (Key × V)} : KR N K m H xs ys → ObR N K m H (.dk xs) (.dK ys)
  | dt {xs : List (List Key × Vl)} {ys : List (List Key × V)} : KR N K m H xs ys → ObR N K m H (.dt xs) (.dT ys)
  | ins {c : Nat} {dx : Addr} {fs : List (Nat × Vl)} {gs : List (Str × V)} : FR N K m H fs gs → ObR N K m H (.ins c fs) (.ins (He.ga K (N.g c)) dx gs)
  | xd {fs : List (Nat × Vl)} {gs : List (Str × V)} : FR N K m H fs gs → ObR N K m H (.xd fs) (.xd gs)
structure SR (N : Nms) (K : PySem.W.Frag) (m : List Addr) (S : Sto) (H : Hp) : Prop where
  len : m.length = S.length
  inj : ∀ (i j : Nat) (a : Addr), m[i]? = some a → m[j]? = some a → i = j
  ob : ∀ (i : Nat) (o : Ob), S[i]? = some o → ∃ a u, m[i]? = some a ∧ H a = some u ∧ ObR N K m H o u
section
variable {N : Nms} {K : PySem.W.Frag} {m m' m1 m2 : List Addr} {S : Sto} {H H' H1 H2 : Hp}
theorem KR.mono {κ : Type} (e : Ext K m H m' H') : ∀ {x : List (κ × Vl)} {u : List (κ × V)}, KR N K m H x u → KR N K m' H' x u
  | _, _, .nil => .nil
  | _, _, .cons h r => .cons (h.mono e) (KR.mono e r)
theorem KR.len {κ : Type} : ∀ {x : List (κ × Vl)} {u : List (κ × V)}, KR N K m H x u → x.length = u.length
  | _, _, .nil => rfl
  | _, _, .cons _ r => congrArg Nat.succ (KR.len r)
theorem FR.mono (e : Ext K m H m' H') : ∀ {x : List (Nat × Vl)} {u : List (Str × V)}, FR N K m H x u → FR N K m' H' x u
  | _, _, .nil => .nil
  | _, _, .cons h r => .cons (h.mono e) (FR.mono e r)
theorem FR.len : ∀ {x : List (Nat × Vl)} {u : List (Str × V)}, FR N K m H x u → x.length = u.length
  | _, _, .nil => rfl
  | _, _, .cons _ r => congrArg Nat.succ (FR.len r)
theorem ObR.mono {o : Ob} {u : HO} (e : Ext K m H m' H') : ObR N K m H o u → ObR N K m' H' o u
  | .lst h => .lst (h.mono e)
  | .dk h => .dk (h.mono e)
  | .dt h => .dt (h.mono e)
  | .ins h => .ins (h.mono e)
  | .xd h => .xd (h.mono e)
/-- what may be written to: no tuple, nothing locked -/
def Plain : HO → Prop
  | .tup _ => False
  | .frz _ _ => False
  | _ => True
theorem ObR.plain {o : Ob} {u : HO} : ObR N K m H o u → Plain u
  | .lst _ => trivial
  | .dk _ => trivial
  | .dt _ => trivial
  | .ins _ => trivial
  | .xd _ => trivial
theorem sqT_upd {a b : Addr} {u v : HO} {xs : List V} (hb : H b = some u) (hp : Plain u) (h : SqT K H a xs) : SqT K (upd H b v) a xs := by
  rcases h with (h | ⟨o, h⟩) | h
  · exact .inl (.inl (by rw [upd_ne (fun q => by rw [q, hb] at h; cases h; exact hp)]; exact h))
  · exact .inl (.inr ⟨o, by rw [upd_ne (fun q => by rw [q, hb] at h; cases h; exact hp)]; exact h⟩)
  · exact .inr h
theorem sqF_upd {a b : Addr} {u v : HO} {xs : List V} (hb : H b = some u) (hp : Plain u) (h : SqF K H a xs) : SqF K (upd H b v) a xs := by
  rcases h with ⟨o, h⟩ | h
  · exact .inl ⟨o, by rw [upd_ne (fun q => by rw [q, hb] at h; cases h; exact hp)]; exact h⟩
  · exact .inr h
theorem Ext.upd {b : Addr} {u v : HO} (hb : H b = some u) (hp : Plain u) : Ext K m H m (L2.upd H b v) := ⟨fun _ _ h => h, fun a xs h => by rw [upd_ne (fun q => by rw [q, hb] at h; cases h; exact hp)]; exact h, fun _ _ h => sqT_upd hb hp h, fun _ _ h => sqF_upd hb hp h⟩
theorem Ext.same (e : Same H H') : Ext K m H m H' := ⟨fun _ _ h => h, fun _ _ h => e _ _ h, fun _ _ h => Evl.ex_t e h, fun a xs h => by
  rcases h with ⟨o, h⟩ | h
  · exact .inl ⟨o, e _ _ h⟩
  · exact .inr h⟩
theorem Ext.app {p : Addr} (e : Same H H') : Ext K m H (m ++ [p]) H' := ⟨fun i a h => by
  have hi : i < m.length := by
    rcases Nat.lt_or_ge i m.length with q | q
    · exact q
    · rw [List.getElem?_eq_none q] at h; cases h
  rw [List.getElem?_append_left hi]; exact h, (Ext.same (K := K) (m := m) e).tup, (Ext.same (m := m) e).ktp, (Ext.same (m := m) e).scr⟩
theorem SR.same (s : SR N K m S H) (e : Same H H') : SR N K m S H' := ⟨s.len, s.inj, fun i o h => by
  obtain ⟨a, u, h1, h2, h3⟩ := s.ob i o h
  exact ⟨a, u, h1, e _ _ h2, h3.mono (Ext.same e)⟩⟩
theorem SR.lt (s : SR N K m S H) {i : Nat} {a : Addr} (h : m[i]? = some a) : i < S.length := by
  rw [← s.len]
  rcases Nat.lt_or_ge i m.length with q | q
  · exact q
  · rw [List.getElem?_eq_none q] at h; cases h
theorem SR.at_ (s : SR N K m S H) {i : Nat} {a : Addr} {o : Ob} (h : m[i]? = some a) (ho : S[i]? = some o) : ∃ u, H a = some u ∧ ObR N K m H o u := by
  obtain ⟨a', u, h1, h2, h3⟩ := s.ob i o ho
  rw [h] at h1
  cases h1
  exact ⟨u, h2, h3⟩
theorem SR.set (s : SR N K m S H) {i : Nat} {a : Addr} {u v : HO} {o : Ob} (h : m[i]? = some a) (hu : H a = some u) (hp : Plain u) (ho : ObR N K m H o v) : SR N K m (S.set i o) (upd H a v) := by
  have e : Ext K m H m (upd H a v) := Ext.upd hu hp
  refine ⟨by rw [List.length_set]; exact s.len, s.inj, fun j p hj => ?_⟩
  rw [List.getElem?_set] at hj
  split at hj
  · rename_i q
    split at hj
    · cases hj
      subst q
      exact ⟨a, v, h, upd_same, ho.mono e⟩
    · cases hj
  · rename_i q
    obtain ⟨b, u', h1, h2, h3⟩ := s.ob j p hj
    have hn : b ≠ a := fun z => q (s.inj i j a h (z ▸ h1))
    exact ⟨b, u', h1, by rw [upd_ne hn]; exact h2, h3.mono e⟩
theorem SR.new (s : SR N K m S H) {p : Addr} {o : Ob} {v : HO} (hS : Same H H') (hp : H p = none) (hp' : H' p = some v) (ho : ObR N K m H o v) : SR N K (m ++ [p]) (S ++ [o]) H' := by
  have e : Ext K m H (m ++ [p]) H' := Ext.app hS
  have hlen : (m ++ [p]).length = m.length + 1 := by rw [List.length_append]; rfl
  have key : ∀ i a, (m ++ [p])[i]? = some a → m[i]? = some a ∨ (i = m.length ∧ a = p) := fun i a h => by
    rcases Nat.lt_or_ge i m.length with q | q
    · rw [List.getElem?_append_left q] at h; exact .inl h
    · rw [List.getElem?_append_right q] at h
      rcases Nat.eq_or_lt_of_le q with z | z
      · rw [← z, Nat.sub_self] at h
        cases h
        exact .inr ⟨z.symm, rfl⟩
      · rw [List.getElem?_eq_none (by show 1 ≤ _; omega)] at h
        cases h
  have no : ∀ i, m[i]? ≠ some p := fun i h => by
    have hl : i < S.length := by
      rw [← s.len]
      rcases Nat.lt_or_ge i m.length with q | q
      · exact q
      · rw [List.getElem?_eq_none q] at h; cases h
    obtain ⟨a, u, h1, h2, _⟩ := s.ob i _ (List.getElem?_eq_getElem hl)
    rw [h] at h1
    cases h1
    rw [hp] at h2
    cases h2
  refine ⟨by rw [hlen, List.length_append, s.len]; rfl, fun i j a h1 h2 => ?_, fun i q h => ?_⟩
  · rcases key i a h1 with q1 | ⟨q1, e1⟩ <;> rcases key j a h2 with q2 | ⟨q2, e2⟩
    · exact s.inj i j a q1 q2
    · rw [e2] at q1; exact absurd q1 (no i)
    · rw [e1] at q2; exact absurd q2 (no j)
    · omega
  · rcases Nat.lt_or_ge i S.length with z | z
    · rw [List.getElem?_append_left z] at h
      obtain ⟨a, u, h1, h2, h3⟩ := s.ob i q h
      exact ⟨a, u, e.pre _ _ h1, hS _ _ h2, h3.mono e⟩
    · rw [List.getElem?_append_right z] at h
      rcases Nat.eq_or_lt_of_le z with y | y
      · rw [← y, Nat.sub_self] at h
        cases h
        refine ⟨p, v, ?_, hp', ho.mono e⟩
        rw [List.getElem?_append_right (by rw [s.len]; omega), s.len, ← y, Nat.sub_self]
        rfl
      · rw [List.getElem?_eq_none (by show 1 ≤ _; omega)] at h
        cases h
theorem SR.ref_new (s : SR N K m S H) {p : Addr} : Vr N K (m ++ [p]) H' (.ref S.length) (.ref p) := .ref (by
  rw [List.getElem?_append_right (by rw [s.len]; omega), s.len, Nat.sub_self]
  rfl)
end
/-! ### the slots -/
structure EnR (N : Nms) (K : PySem.W.Frag) (m : List Addr) (H : Hp) (env : En) (σ : L2.St) : Prop where
  len : env.length = σ.length
  at_ : ∀ (i : Nat) (v : Vl), env[i]? = some (some v) → ∃ u, σ[i]? = some (some u) ∧ Vr N K m H v u
  hd : ∀ (i : Nat) (a : Addr), N.xh = some (i, a) → σ[i]? = some (some (.ref a))
section
variable {N : Nms} {K : PySem.W.Frag} {m m' m1 m2 : List Addr} {S : Sto} {H H' H1 H2 : Hp} {env : En} {σ : L2.St}
theorem EnR.mono (h : EnR N K m H env σ) (e : Ext K m H m' H') : EnR N K m' H' env σ := ⟨h.len, fun i v q => by
  obtain ⟨u, h1, h2⟩ := h.at_ i v q
  exact ⟨u, h1, h2.mono e⟩, h.hd⟩
theorem EnR.set (h : EnR N K m H env σ) {i : Nat} {v : Vl} {u : V} (hf : N.fr i) (r : Vr N K m H v u) : EnR N K m H (env.set i (some v)) (σ.set i (some u)) := by
  refine ⟨by rw [List.length_set, List.length_set]; exact h.len, fun j w q => ?_, fun j a e => by
    rw [List.getElem?_set_ne (by intro z; subst z; exact hf a e)]
    exact h.hd j a e⟩
  rw [List.getElem?_set] at q
  rw [List.getElem?_set]
  split at q
  · rename_i z
    split at q
    · rename_i y
      cases q
      rw [if_pos z, if_pos (by rw [← h.len]; exact y)]
      exact ⟨u, rfl, r⟩
    · cases q
  · rename_i z
    rw [if_neg z]
    exact h.at_ j w q
end
/-! ### what a reading does, told by the store -/
/-- how an exception's own dict is told -/
def XD (m : List Addr) : Option Nat → Option Addr → Prop
  | none, none => True
  | some i, some a => m[i]? = some a
  | _, _ => False
def Post {α β : Type} (N : Nms) (K : PySem.W.Frag) (R : List Addr → Hp → α → β → Prop) (m : List Addr) (H : Hp) (Q : β → Hp → Prop) (E : XK) : Out α → Prop
  | .ok v S' => ∀ m' H' u, Ext K m H m' H' → SR N K m' S' H' → R m' H' v u → Q u H'
  | .err c x S' => ∀ m' H' d, Ext K m H m' H' → SR N K m' S' H' → XD m' x d → E (.ref (He.ga K (N.g c))) d H'
  | .bad => False
def Sim {α β : Type} (N : Nms) (K : PySem.W.Frag) (R : List Addr → Hp → α → β → Prop) (W : L2.St → XK) (t : L2.St → Hp → (β → Hp → Prop) → Prop) (f : En → Sto → Out α) : Prop :=
  ∀ m S H env σ Q, SR N K m S H → EnR N K m H env σ → Post N K R m H Q (W σ) (f env S) → t σ H Q
abbrev RvB (_ : List Addr) (_ : Hp) (a b : Bool) : Prop := a = b
abbrev RvO (_ : List Addr) (_ : Hp) (a b : Option Int) : Prop := a = b
section
variable {α β γ δ : Type} {N : Nms} {K : PySem.W.Frag} {R : List Addr → Hp → α → β → Prop} {R' : List Addr → Hp → γ → δ → Prop} {m m1 : List Addr} {H H1 : Hp} {Q : β → Hp → Prop} {Q' : δ → Hp → Prop} {E : XK} {W : L2.St → XK}
theorem Post.mono {o : Out α} (e : Ext K m H m1 H1) (h : Post N K R m H Q E o) : Post N K R m1 H1 Q E o := by
  cases o with
  | ok v S => exact fun m' H' u e' => h m' H' u (e.trans e')
  | err c x S => exact fun m' H' u e' => h m' H' u (e.trans e')
  | bad => exact h
theorem Post.ok {v : α} {u : β} {S : Sto} (h : Post N K R m H Q E (.ok v S)) (s : SR N K m S H) (r : R m H v u) : Q u H := h m H u Ext.refl s r
theorem Post.to {v : α} {u : β} {S : Sto} (h : Post N K R m H Q E (.ok v S)) (e : Ext K m H m1 H1) (s : SR N K m1 S H1) (r : R m1 H1 v u) : Q u H1 := h m1 H1 u e s r
theorem Sim.step {t : L2.St → Hp → (β → Hp → Prop) → Prop} {f : En → Sto → Out α} {g : α → Sto → Out γ} {S : Sto} {env : En} {σ : L2.St} (h : Sim N K R W t f) (s : SR N K m S H) (er : EnR N K m H env σ) (hp : Post N K R' m H Q' (W σ) ((f env S).bind g))
    (k : ∀ a S1 m1 H1 u, Ext K m H m1 H1 → SR N K m1 S1 H1 → R m1 H1 a u → EnR N K m1 H1 env σ → Post N K R' m1 H1 Q' (W σ) (g a S1) → Q u H1) : t σ H Q := by
  refine h m S H env σ Q s er ?_
  cases q : f env S with
  | ok v S1 =>
    rw [q] at hp
    exact fun m' H' u e s' r => k v S1 m' H' u e s' r (er.mono e) (Post.mono e hp)
  | err c x S1 =>
    rw [q] at hp
    exact hp
  | bad =>
    rw [q] at hp
    exact hp
end
end Nt

namespace Nt
open PySem PySem.Spec PyProof.Rows L2 Evl
/-! ### expressions -/
abbrev XE' := En → Sto → Out Vl
abbrev XA := En → Sto → Out (List Vl)
abbrev XT := En → Sto → Out Bool
abbrev XO := En → Sto → Out (Option Int)
structure SE (N : Nms) (X : Cx) (W : L2.St → XK) (e : Expr) (f : XE') : Prop where
  ex : ∃ t, PE X e t ∧ Sim N X.K (Vr N X.K) W t f
structure SA (N : Nms) (X : Cx) (W : L2.St → XK) (e : List Expr) (f : XA) : Prop where
  ex : ∃ t, PA X e t ∧ Sim N X.K (Vrs N X.K) W t f
structure ST (N : Nms) (X : Cx) (W : L2.St → XK) (e : Expr) (f : XT) : Prop where
  ex : ∃ t, PT X e t ∧ Sim N X.K RvB W t f
structure SW (N : Nms) (X : Cx) (W : L2.St → XK) (e : Expr) (f : XT) : Prop where
  ex : ∃ t, PW X e t ∧ Sim N X.K RvB W t f
structure SO (N : Nms) (X : Cx) (W : L2.St → XK) (e : Option Expr) (f : XO) : Prop where
  ex : ∃ t, PO X e t ∧ Sim N X.K RvO W t f
/-- an operation by values -/
def OpS (N : Nms) (K : PySem.W.Frag) (r : R2) (g : Vl → Vl → Sto → Out Vl) : Prop := ∀ m S H x y u w Q E, SR N K m S H → Vr N K m H x u → Vr N K m H y w → Post N K (Vr N K) m H Q E (g x y S) → r u w H Q
structure OpM (N : Nms) (X : Cx) (f : Value → Value → Sem Value) (g : Vl → Vl → Sto → Out Vl) : Prop where
  ex : ∃ r, OpR X f r ∧ OpS N X.K r g
def UnS (N : Nms) (K : PySem.W.Frag) (r : V → Hp → VK → Prop) (g : Vl → Sto → Out Vl) : Prop := ∀ m S H x u Q E, SR N K m S H → Vr N K m H x u → Post N K (Vr N K) m H Q E (g x S) → r u H Q
def CallS (N : Nms) (K : PySem.W.Frag) (r : List V → Hp → VK → Prop) (g : List Vl → Sto → Out Vl) : Prop := ∀ m S H xs us Q E, SR N K m S H → Vrs N K m H xs us → Post N K (Vr N K) m H Q E (g xs S) → r us H Q
structure CallM (N : Nms) (X : Cx) (f : Value) (g : List Vl → Sto → Out Vl) : Prop where
  ex : ∃ r, CallR X f r ∧ CallS N X.K r g
def rOr (r r' : R2) : R2 := fun x y H Q => r x y H Q ∨ r' x y H Q
theorem OpR.or {X : Cx} {f : Value → Value → Sem Value} {r r' : R2} (h : OpR X f r) (h' : OpR X f r') : OpR X f (rOr r r') := fun pins s σ H x y v u Q I rx ry q => by
  rcases q with q | q
  · exact h pins s σ H x y v u Q I rx ry q
  · exact h' pins s σ H x y v u Q I rx ry q
def cOr (r r' : List V → Hp → VK → Prop) : List V → Hp → VK → Prop := fun x H Q => r x H Q ∨ r' x H Q
theorem CallR.or {X : Cx} {f : Value} {r r' : List V → Hp → VK → Prop} (h : CallR X f r) (h' : CallR X f r') : CallR X f (cOr r r') := fun pins s σ H x v Q I rx q => by
  rcases q with q | q
  · exact h pins s σ H x v Q I rx q
  · exact h' pins s σ H x v Q I rx q
section
variable {N : Nms} {K : PySem.W.Frag} {m : List Addr} {S : Sto} {H : Hp} {u : V}
theorem Vr.int' {i : Int} (h : Vr N K m H (.int i) u) : u = .int i := by cases h; rfl
theorem Vr.str' {i : Str} (h : Vr N K m H (.str i) u) : u = .str i := by cases h; rfl
theorem Vr.bl' {i : Bool} (h : Vr N K m H (.bl i) u) : u = .bl i := by cases h; rfl
theorem Vr.non' (h : Vr N K m H .non u) : u = .non := by cases h; rfl
theorem Vr.tup' {xs : List Vl} (h : Vr N K m H (.tup xs) u) : ∃ a ys, u = .ref a ∧ H a = some (.tup ys) ∧ Vrs N K m H xs ys := by cases h with | tup h1 h2 => exact ⟨_, _, rfl, h1, h2⟩
def asTup : Vl → Option (List Vl)
  | .tup xs => some xs
  | .ktp xs => some xs
  | _ => none
theorem Vr.asT {x : Vl} {xs : List Vl} (h : Vr N K m H x u) (e : asTup x = some xs) : ∃ a ys, u = .ref a ∧ SqT K H a ys ∧ Vrs N K m H xs ys := by
  cases h with
  | tup h1 h2 => cases e; exact ⟨_, _, rfl, st_of h1, h2⟩
  | ktp h1 h2 => cases e; exact ⟨_, _, rfl, h1, h2⟩
  | _ => cases e
theorem Vr.ref' {i : Nat} (h : Vr N K m H (.ref i) u) : ∃ a, u = .ref a ∧ m[i]? = some a := by cases h with | ref h => exact ⟨_, rfl, h⟩
theorem Vr.scr' {i : List Int} (h : Vr N K m H (.scr i) u) : ∃ a, u = .ref a ∧ SqF K H a (i.map V.int) := by cases h with | scr h => exact ⟨_, rfl, h⟩
theorem Vr.fn' {i : Nat} (h : Vr N K m H (.fn i) u) : u = .ref (He.ga K (N.g i)) := by cases h; rfl
theorem Vr.ty' {i : String} (h : Vr N K m H (.ty i) u) : u = .ty i := by cases h; rfl
theorem Vrs.nil' {us : List V} (h : Vrs N K m H [] us) : us = [] := by cases h; rfl
theorem Vrs.cons' {x : Vl} {xs : List Vl} {us : List V} (h : Vrs N K m H (x :: xs) us) : ∃ u ws, us = u :: ws ∧ Vr N K m H x u ∧ Vrs N K m H xs ws := by cases h with | cons h1 h2 => exact ⟨_, _, rfl, h1, h2⟩
theorem SR.lst (s : SR N K m S H) {i : Nat} {a : Addr} {xs : List Vl} (h : m[i]? = some a) (ho : S[i]? = some (.lst xs)) : ∃ ys, H a = some (.lst ys) ∧ Vrs N K m H xs ys := by
  obtain ⟨u, h1, h2⟩ := s.at_ h ho
  cases h2 with | lst r => exact ⟨_, h1, r⟩
theorem SR.dk (s : SR N K m S H) {i : Nat} {a : Addr} {xs : List (Key × Vl)} (h : m[i]? = some a) (ho : S[i]? = some (.dk xs)) : ∃ ys, H a = some (.dK ys) ∧ KR N K m H xs ys := by
  obtain ⟨u, h1, h2⟩ := s.at_ h ho
  cases h2 with | dk r => exact ⟨_, h1, r⟩
theorem SR.dt (s : SR N K m S H) {i : Nat} {a : Addr} {xs : List (List Key × Vl)} (h : m[i]? = some a) (ho : S[i]? = some (.dt xs)) : ∃ ys, H a = some (.dT ys) ∧ KR N K m H xs ys := by
  obtain ⟨u, h1, h2⟩ := s.at_ h ho
  cases h2 with | dt r => exact ⟨_, h1, r⟩
theorem SR.ins (s : SR N K m S H) {i c : Nat} {a : Addr} {fs : List (Nat × Vl)} (h : m[i]? = some a) (ho : S[i]? = some (.ins c fs)) : ∃ dx gs, H a = some (.ins (He.ga K (N.g c)) dx gs) ∧ FR N K m H fs gs := by
  obtain ⟨u, h1, h2⟩ := s.at_ h ho
  cases h2 with | ins r => exact ⟨_, _, h1, r⟩
end
/-! ### names, constants, operators -/
def xVar (i : Nat) : XE' := fun env S => match env[i]? with
  | some (some v) => .ok v S
  | _ => .bad
def xC (v : Vl) : XE' := fun _ S => .ok v S
def xOp (g : Vl → Vl → Sto → Out Vl) (a b : XE') : XE' := fun env S => (a env S).bind fun x S1 => (b env S1).bind fun y S2 => g x y S2
def xUn (g : Vl → Sto → Out Vl) (a : XE') : XE' := fun env S => (a env S).bind fun x S1 => g x S1
def aNil : XA := fun _ S => .ok [] S
def aCons (a : XE') (r : XA) : XA := fun env S => (a env S).bind fun x S1 => (r env S1).bind fun xs S2 => .ok (x :: xs) S2
def xTup (a : XA) : XE' := fun env S => (a env S).bind fun xs S1 => if xs.length ≤ 100000 then .ok (.tup xs) S1 else .bad
def xLst (a : XA) : XE' := fun env S => (a env S).bind fun xs S1 => if xs.length ≤ 100000 then .ok (.ref S1.length) (S1 ++ [.lst xs]) else .bad
def xCB (g : List Vl → Sto → Out Vl) (a : XA) : XE' := fun env S => (a env S).bind fun xs S1 => g xs S1
def toB : Vl → Sto → Out Bool
  | .bl b, S => .ok b S
  | _, _ => .bad
section
variable {N : Nms} {X : Cx} {W : L2.St → XK} {e a b : Expr} {es : List Expr} {fa fb : XE'} {f : XA} {pos p : Pos} {x : Str}
theorem se_var {i : Nat} (hN : X.N[i]? = some x) (hv : Vis X.env.scope x) (hd : (x == ("__debug__" : Str)) = false := by decide) (hcd : (x == ("__classdict__" : Str)) = false := by decide) : SE N X W (.Name x pos) (xVar i) := by
  refine ⟨_, pe_var hN hv hd hcd, fun m S H env σ Q s er h => ?_⟩
  unfold xVar at h
  cases q : env[i]? with
  | none => rw [q] at h; exact h.elim
  | some o =>
    cases o with
    | none => rw [q] at h; exact h.elim
    | some v =>
      rw [q] at h
      obtain ⟨u, h1, h2⟩ := er.at_ i v q
      exact ⟨u, h1, h.ok s h2⟩
theorem se_int {i : Int} {j} : SE N X W (.Constant (.int i) j pos) (xC (.int i)) := ⟨_, pe_int, fun m S H env σ Q s er h => h.ok s (.int i)⟩
theorem se_bl {i : Bool} {j} : SE N X W (.Constant (.bool i) j pos) (xC (.bl i)) := ⟨_, pe_bl, fun m S H env σ Q s er h => h.ok s (.bl i)⟩
theorem se_non {j} : SE N X W (.Constant .none j pos) (xC .non) := ⟨_, pe_non, fun m S H env σ Q s er h => h.ok s .non⟩
theorem se_str {i : Str} {j} : SE N X W (.Constant (.str i) j pos) (xC (.str i)) := ⟨_, pe_str, fun m S H env σ Q s er h => h.ok s (.str i)⟩
theorem se_gint {i : Int} (hg : Gl X x) (hm : ∃ t, X.mg x = some (.int i t)) (hd : (x == ("__debug__" : Str)) = false := by decide) : SE N X W (.Name x pos) (xC (.int i)) := ⟨_, pe_gint hg hm hd, fun m S H env σ Q s er h => h.ok s (.int i)⟩
theorem se_gstr {i : Str} (hg : Gl X x) (hm : ∃ t, X.mg x = some (.str i t)) (hd : (x == ("__debug__" : Str)) = false := by decide) : SE N X W (.Name x pos) (xC (.str i)) := ⟨_, pe_gstr hg hm hd, fun m S H env σ Q s er h => h.ok s (.str i)⟩
/-- a def, a class of the module -/
theorem se_gfn (k : Nat) (hg : Gl X (N.g k)) (hm : X.mg (N.g k) = some (.ref (He.ga X.K (N.g k)))) (hd : (N.g k == ("__debug__" : Str)) = false := by decide) : SE N X W (.Name (N.g k) pos) (xC (.fn k)) := ⟨_, pe_gref hg hm hd, fun m S H env σ Q s er h => h.ok s (.fn k)⟩
theorem se_bltn {n : String} (hg : Gl X x) (hm : X.mg x = none) (hv : bootBuiltins x = some (.type n)) (hn : x ≠ "__name__" := by decide) (hd : (x == ("__debug__" : Str)) = false := by decide) : SE N X W (.Name x pos) (xC (.ty n)) :=
  ⟨_, pe_bltn (v := .ty n) hg hm hv rfl hn hd, fun m S H env σ Q s er h => h.ok s (.ty n)⟩
theorem sim_op {ta tb : TE} {r : R2} {g : Vl → Vl → Sto → Out Vl} (hr : OpS N X.K r g) (s1 : Sim N X.K (Vr N X.K) W ta fa) (s2 : Sim N X.K (Vr N X.K) W tb fb) : Sim N X.K (Vr N X.K) W (tOp r ta tb) (xOp g fa fb) := fun m S H env σ Q s er h =>
  s1.step s er h fun x S1 m1 H1 u e1 sr1 r1 er1 h1 => s2.step sr1 er1 h1 fun y S2 m2 H2 w e2 sr2 r2 er2 h2 => hr m2 S2 H2 x y u w Q _ sr2 (r1.mono e2) r2 h2
theorem se_op {op : Operator} {g : Vl → Vl → Sto → Out Vl} (ho : OpM N X (binaryOp op) g) (ha : SE N X W a fa) (hb : SE N X W b fb) : SE N X W (.BinOp a op b pos) (xOp g fa fb) := by
  obtain ⟨r, h1, h2⟩ := ho.ex
  obtain ⟨ta, p1, s1⟩ := ha.ex
  obtain ⟨tb, p2, s2⟩ := hb.ex
  exact ⟨_, pe_op h1 p1 p2, sim_op h2 s1 s2⟩
theorem se_cmp {op : CmpOp} {g : Vl → Vl → Sto → Out Vl} (ho : OpM N X (compareOp op) g) (ha : SE N X W a fa) (hb : SE N X W b fb) (hm : behindInMarks op b = false) : SE N X W (.Compare a [op] [b] pos) (xOp g fa fb) := by
  obtain ⟨r, h1, h2⟩ := ho.ex
  obtain ⟨ta, p1, s1⟩ := ha.ex
  obtain ⟨tb, p2, s2⟩ := hb.ex
  exact ⟨_, pe_cmpR h1 p1 p2 hm, sim_op h2 s1 s2⟩
theorem sim_test {ta : TE} (s1 : Sim N X.K (Vr N X.K) W ta fa) : Sim N X.K RvB W (tTest ta) (fun env S => (fa env S).bind toB) := fun m S H env σ Q s er h =>
  s1.step s er h fun x S1 m1 H1 u e1 sr1 r1 er1 h1 => by
    cases x <;> first | exact h1.elim | skip
    rename_i k
    cases r1
    exact ⟨k, rfl, h1.ok sr1 rfl⟩
def yCmp (g : Vl → Vl → Sto → Out Vl) (a b : XE') : XT := fun env S => (xOp g a b env S).bind toB
theorem st_cmp {op : CmpOp} {g : Vl → Vl → Sto → Out Vl} (ho : OpM N X (compareOp op) g) (ha : SE N X W a fa) (hb : SE N X W b fb) (hm : behindInMarks op b = false) : ST N X W (.Compare a [op] [b] pos) (yCmp g fa fb) := by
  obtain ⟨r, h1, h2⟩ := ho.ex
  obtain ⟨ta, p1, s1⟩ := ha.ex
  obtain ⟨tb, p2, s2⟩ := hb.ex
  exact ⟨_, pt_cmpR h1 p1 p2 hm, sim_test (sim_op h2 s1 s2)⟩
theorem se_un {op : UnaryOp} {r : V → Hp → VK → Prop} {g : Vl → Sto → Out Vl} (ho : UnR X (unaryOp op) r) (hg : UnS N X.K r g) (ha : SE N X W a fa) : SE N X W (.UnaryOp op a pos) (xUn g fa) := by
  obtain ⟨ta, p1, s1⟩ := ha.ex
  exact ⟨_, pe_un ho p1, fun m S H env σ Q s er h => s1.step s er h fun x S1 m1 H1 u e1 sr1 r1 er1 h1 => hg m1 S1 H1 x u Q _ sr1 r1 h1⟩
theorem sa_nil : SA N X W [] aNil := ⟨_, pa_nil, fun m S H env σ Q s er h => h.ok s .nil⟩
theorem sa_cons (ha : SE N X W e fa) (hr : SA N X W es f) (hs : starEach (e :: es) X.env = (false, eval e X.env) :: starEach es X.env := by rfl) : SA N X W (e :: es) (aCons fa f) := by
  obtain ⟨ta, p1, s1⟩ := ha.ex
  obtain ⟨tr, p2, s2⟩ := hr.ex
  refine ⟨_, pa_cons p1 p2 hs, fun m S H env σ Q s er h => s1.step s er h fun x S1 m1 H1 u e1 sr1 r1 er1 h1 => ?_⟩
  exact s2.step sr1 er1 h1 fun xs S2 m2 H2 us e2 sr2 r2 er2 h2 => h2.ok sr2 (.cons (r1.mono e2) r2)
theorem se_tup {x1} (h : SA N X W es f) : SE N X W (.Tuple es x1 pos) (xTup f) := by
  obtain ⟨tr, p2, s2⟩ := h.ex
  refine ⟨_, pe_tup p2, fun m S H env σ Q s er h => s2.step s er h fun xs S1 m1 H1 us e1 sr1 r1 er1 h1 => ?_⟩
  split at h1
  · rename_i hl
    refine ⟨sz_of (by rw [← r1.len]; exact hl), fun q hq => h1.to (Ext.same (Same.new hq)) (sr1.same (Same.new hq)) (.tup upd_same (r1.mono (Ext.same (Same.new hq))))⟩
  · exact h1.elim
theorem se_lst (h : SA N X W es f) : SE N X W (.List es pos) (xLst f) := by
  obtain ⟨tr, p2, s2⟩ := h.ex
  refine ⟨_, pe_lst p2, fun m S H env σ Q s er h => s2.step s er h fun xs S1 m1 H1 us e1 sr1 r1 er1 h1 => ?_⟩
  split at h1
  · rename_i hl
    refine ⟨sz_of (by rw [← r1.len]; exact hl), fun q hq => h1.to (Ext.app (Same.new hq)) (sr1.new (Same.new hq) hq upd_same (.lst r1)) sr1.ref_new⟩
  · exact h1.elim
theorem se_callB {id : String} {g : List Vl → Sto → Out Vl} (hc : CallM N X (.builtin id) g) (hg : Gl X x) (hm : X.mg x = none) (hv : bootBuiltins x = some (.builtin id)) (ha : SA N X W (e :: es) f) (hn : x ≠ "__name__" := by decide) (hdb : (x == ("__debug__" : Str)) = false := by decide)
    (he : starEach (e :: es) X.env = (false, eval e X.env) :: starEach es X.env := by rfl) (hpl : (backTo pos (starEach es X.env)).any (·.1) = false := by rfl) : SE N X W (.Call (.Name x p) (e :: es) [] pos) (xCB g f) := by
  obtain ⟨r, h1, h2⟩ := hc.ex
  obtain ⟨ta, p1, s1⟩ := ha.ex
  exact ⟨_, pe_callB h1 hg hm hv p1 hn hdb he hpl, fun m S H env σ Q s er h => s1.step s er h fun x S1 m1 H1 u e1 sr1 r1 er1 h1 => h2 m1 S1 H1 x u Q _ sr1 r1 h1⟩
theorem se_callTy {T : String} {g : List Vl → Sto → Out Vl} (hc : CallM N X (.type T) g) (hg : Gl X x) (hm : X.mg x = none) (hv : bootBuiltins x = some (.type T)) (ha : SA N X W (e :: es) f) (hn : x ≠ "__name__" := by decide) (hdb : (x == ("__debug__" : Str)) = false := by decide)
    (he : starEach (e :: es) X.env = (false, eval e X.env) :: starEach es X.env := by rfl) (hpl : (backTo pos (starEach es X.env)).any (·.1) = false := by rfl) : SE N X W (.Call (.Name x p) (e :: es) [] pos) (xCB g f) := by
  obtain ⟨r, h1, h2⟩ := hc.ex
  obtain ⟨ta, p1, s1⟩ := ha.ex
  exact ⟨_, pe_callTy h1 hg hm hv p1 hn hdb he hpl, fun m S H env σ Q s er h => s1.step s er h fun x S1 m1 H1 u e1 sr1 r1 er1 h1 => h2 m1 S1 H1 x u Q _ sr1 r1 h1⟩
end
/-! ### truth, and, or, not, if -/
def truth : Vl → Sto → Out Bool
  | .non, S => .ok false S
  | .bl b, S => .ok b S
  | .int i, S => .ok (i != 0) S
  | .str y, S => if y.length ≤ 100000 then .ok ((y.length : Int) != 0) S else .bad
  | .tup xs, S => .ok (!xs.isEmpty) S
  | .ktp xs, S => .ok (!xs.isEmpty) S
  | .scr ns, S => .ok (!ns.isEmpty) S
  | .ref i, S => match S[i]? with
    | some (.lst xs) => .ok (!xs.isEmpty) S
    | some (.dk kvs) => .ok (!kvs.isEmpty) S
    | _ => .bad
  | _, _ => .bad
theorem truth_ok {N : Nms} {K : PySem.W.Frag} {m : List Addr} {S S' : Sto} {H : Hp} {x : Vl} {u : V} {b : Bool} (s : SR N K m S H) (r : Vr N K m H x u) (h : truth x S = .ok b S') : TruV K u H b ∧ S' = S := by
  cases x with
  | non => cases r; cases h; exact ⟨rfl, rfl⟩
  | bl _ => cases r; cases h; exact ⟨rfl, rfl⟩
  | int _ => cases r; cases h; exact ⟨rfl, rfl⟩
  | str y =>
    cases r
    simp only [truth] at h
    split at h
    · rename_i q
      cases h
      exact ⟨⟨sz_of q, rfl⟩, rfl⟩
    · cases h
  | tup xs =>
    obtain ⟨a, ys, rfl, h1, h2⟩ := r.tup'
    cases h
    refine ⟨.inr (.inl ⟨ys, st_of h1, ?_⟩), rfl⟩
    cases h2 <;> rfl
  | ktp xs =>
    obtain ⟨a, ys, rfl, h1, h2⟩ := r.asT rfl
    cases h
    refine ⟨.inr (.inl ⟨ys, h1, ?_⟩), rfl⟩
    cases h2 <;> rfl
  | scr ns =>
    obtain ⟨a, rfl, h1⟩ := r.scr'
    cases h
    refine ⟨.inl ⟨_, h1.l, ?_⟩, rfl⟩
    cases ns <;> rfl
  | ref i =>
    obtain ⟨a, rfl, h1⟩ := r.ref'
    simp only [truth] at h
    split at h
    · rename_i xs q
      cases h
      obtain ⟨ys, h2, h3⟩ := s.lst h1 q
      refine ⟨.inl ⟨ys, sq_of h2, ?_⟩, rfl⟩
      cases h3 <;> rfl
    · rename_i xs q
      cases h
      obtain ⟨ys, h2, h3⟩ := s.dk h1 q
      refine ⟨.inr (.inr ⟨ys, h2, ?_⟩), rfl⟩
      cases h3 <;> rfl
    · cases h
  | fn _ => cases h
  | ty _ => cases h
def yV (a : XE') : XT := fun env S => (a env S).bind truth
def yAnd (a b : XT) : XT := fun env S => (a env S).bind fun c S1 => if c = true then b env S1 else .ok false S1
def yOr (a b : XT) : XT := fun env S => (a env S).bind fun c S1 => if c = true then .ok true S1 else b env S1
def yNot (a : XT) : XT := fun env S => (a env S).bind fun c S1 => .ok (!c) S1
def xIf (t : XT) (a b : XE') : XE' := fun env S => (t env S).bind fun c S1 => if c = true then a env S1 else b env S1
def xAnd (a b : XE') : XE' := fun env S => (a env S).bind fun x S1 => (truth x S1).bind fun c S2 => if c = true then b env S2 else .ok x S2
def xOr (a b : XE') : XE' := fun env S => (a env S).bind fun x S1 => (truth x S1).bind fun c S2 => if c = true then .ok x S2 else b env S2
def xNot (a : XE') : XE' := fun env S => (a env S).bind fun x S1 => (truth x S1).bind fun c S2 => .ok (.bl (!c)) S2
section
variable {N : Nms} {X : Cx} {W : L2.St → XK} {e a b c : Expr} {es rest : List Expr} {fa fb : XE'} {f : XA} {ft fu : XT} {pos p : Pos} {x : Str}
/-- a value's truth, then the rest -/
theorem truth_step {γ δ : Type} {R' : List Addr → Hp → γ → δ → Prop} {K : PySem.W.Frag} {m : List Addr} {S : Sto} {H : Hp} {x : Vl} {u : V} {g : Bool → Sto → Out γ} {Q' : δ → Hp → Prop} {E : XK} {P : Prop} (s : SR N K m S H) (r : Vr N K m H x u)
    (h : Post N K R' m H Q' E ((truth x S).bind g)) (k : ∀ b, TruV K u H b → Post N K R' m H Q' E (g b S) → P) : P := by
  cases q : truth x S with
  | ok b S' =>
    obtain ⟨h1, rfl⟩ := truth_ok s r q
    rw [q] at h
    exact k b h1 h
  | err c y S' =>
    exfalso
    cases x <;> (simp only [truth] at q; first | cases q | (split at q <;> cases q) | skip)
  | bad => rw [q] at h; exact h.elim
theorem st_val (ha : SE N X W a fa) (he : ∀ whole, isTrue a X.env whole = (do let v ← whole; standAt a.pos; holding [v] (truthy v)) := by intro _; rfl) : ST N X W a (yV fa) := by
  obtain ⟨ta, p1, s1⟩ := ha.ex
  refine ⟨_, pt_truth p1 he, fun m S H env σ Q s er h => s1.step s er h fun x S1 m1 H1 u e1 sr1 r1 er1 h1 => ?_⟩
  have h1' : Post N X.K RvB m1 H1 Q (W σ) ((truth x S1).bind fun b S => .ok b S) := by
    cases q : truth x S1 <;> (rw [q] at h1; exact h1)
  exact truth_step sr1 r1 h1' fun b tb hb => ⟨b, tb, hb.ok sr1 rfl⟩
theorem sw_and1 (ha : ST N X W a ft) : SW N X W (.BoolOp .And [a] pos) ft := by
  obtain ⟨ta, p1, s1⟩ := ha.ex
  exact ⟨_, pw_and1 p1, s1⟩
theorem sw_or1 (ha : ST N X W a ft) : SW N X W (.BoolOp .Or [a] pos) ft := by
  obtain ⟨ta, p1, s1⟩ := ha.ex
  exact ⟨_, pw_or1 p1, s1⟩
theorem sw_and (ha : ST N X W a ft) (hb : SW N X W (.BoolOp .And (b :: rest) pos) fu) : SW N X W (.BoolOp .And (a :: b :: rest) pos) (yAnd ft fu) := by
  obtain ⟨ta, p1, s1⟩ := ha.ex
  obtain ⟨tb, p2, s2⟩ := hb.ex
  refine ⟨_, pw_and p1 p2, fun m S H env σ Q s er h => s1.step s er h fun c S1 m1 H1 u e1 sr1 r1 er1 h1 => ?_⟩
  cases r1
  cases c with
  | true => exact s2 m1 S1 H1 env σ Q sr1 er1 h1
  | false => exact h1.ok sr1 rfl
theorem sw_or (ha : ST N X W a ft) (hb : SW N X W (.BoolOp .Or (b :: rest) pos) fu) : SW N X W (.BoolOp .Or (a :: b :: rest) pos) (yOr ft fu) := by
  obtain ⟨ta, p1, s1⟩ := ha.ex
  obtain ⟨tb, p2, s2⟩ := hb.ex
  refine ⟨_, pw_or p1 p2, fun m S H env σ Q s er h => s1.step s er h fun c S1 m1 H1 u e1 sr1 r1 er1 h1 => ?_⟩
  cases r1
  cases c with
  | false => exact s2 m1 S1 H1 env σ Q sr1 er1 h1
  | true => exact h1.ok sr1 rfl
theorem SW.st (h : SW N X W a ft) : ST N X W a ft := by
  obtain ⟨ta, p1, s1⟩ := h.ex
  exact ⟨_, p1.pt, s1⟩
theorem st_not (ha : ST N X W a ft) : ST N X W (.UnaryOp .Not a pos) (yNot ft) := by
  obtain ⟨ta, p1, s1⟩ := ha.ex
  refine ⟨_, pt_not p1, fun m S H env σ Q s er h => s1.step s er h fun c S1 m1 H1 u e1 sr1 r1 er1 h1 => ?_⟩
  cases r1
  exact h1.ok sr1 rfl
theorem se_if (hc : ST N X W c ft) (ha : SE N X W a fa) (hb : SE N X W b fb) : SE N X W (.IfExp c a b pos) (xIf ft fa fb) := by
  obtain ⟨tt, p0, s0⟩ := hc.ex
  obtain ⟨ta, p1, s1⟩ := ha.ex
  obtain ⟨tb, p2, s2⟩ := hb.ex
  refine ⟨_, pe_ifExp p0 p1 p2, fun m S H env σ Q s er h => s0.step s er h fun c S1 m1 H1 u e1 sr1 r1 er1 h1 => ?_⟩
  cases r1
  cases c with
  | true => exact s1 m1 S1 H1 env σ Q sr1 er1 h1
  | false => exact s2 m1 S1 H1 env σ Q sr1 er1 h1
theorem se_one {op} (ha : SE N X W a fa) : SE N X W (.BoolOp op [a] pos) fa := by
  obtain ⟨ta, p1, s1⟩ := ha.ex
  exact ⟨_, pe_one p1, s1⟩
theorem se_and (ha : SE N X W a fa) (hb : SE N X W (.BoolOp .And (b :: rest) pos) fb) : SE N X W (.BoolOp .And (a :: b :: rest) pos) (xAnd fa fb) := by
  obtain ⟨ta, p1, s1⟩ := ha.ex
  obtain ⟨tb, p2, s2⟩ := hb.ex
  refine ⟨_, pe_andT p1 p2, fun m S H env σ Q s er h => s1.step s er h fun x S1 m1 H1 u e1 sr1 r1 er1 h1 => ?_⟩
  refine truth_step sr1 r1 h1 fun k tk hk => ⟨k, tk, ?_⟩
  cases k with
  | true => exact s2 m1 S1 H1 env σ Q sr1 er1 hk
  | false => exact hk.ok sr1 r1
theorem se_or (ha : SE N X W a fa) (hb : SE N X W (.BoolOp .Or (b :: rest) pos) fb) : SE N X W (.BoolOp .Or (a :: b :: rest) pos) (xOr fa fb) := by
  obtain ⟨ta, p1, s1⟩ := ha.ex
  obtain ⟨tb, p2, s2⟩ := hb.ex
  refine ⟨_, pe_orT p1 p2, fun m S H env σ Q s er h => s1.step s er h fun x S1 m1 H1 u e1 sr1 r1 er1 h1 => ?_⟩
  refine truth_step sr1 r1 h1 fun k tk hk => ⟨k, tk, ?_⟩
  cases k with
  | false => exact s2 m1 S1 H1 env σ Q sr1 er1 hk
  | true => exact hk.ok sr1 r1
theorem se_not (ha : SE N X W a fa) : SE N X W (.UnaryOp .Not a pos) (xNot fa) := by
  obtain ⟨ta, p1, s1⟩ := ha.ex
  refine ⟨_, pe_notT p1, fun m S H env σ Q s er h => s1.step s er h fun x S1 m1 H1 u e1 sr1 r1 er1 h1 => ?_⟩
  exact truth_step sr1 r1 h1 fun k tk hk => ⟨k, tk, hk.ok sr1 (.bl _)⟩
/-- a op b op c -/
def xChain (g g' : Vl → Vl → Sto → Out Vl) (a b c : XE') : XE' := fun env S => (a env S).bind fun x S1 => (b env S1).bind fun y S2 => (g x y S2).bind fun z S3 => (toB z S3).bind fun k S4 => if k = true then (c env S4).bind fun w S5 => g' y w S5 else .ok (.bl false) S4
end
end Nt

namespace Nt
open PySem PySem.Spec PyProof.Rows L2 Evl
/-! ### calls: arguments and keywords together -/
abbrev XB := En → Sto → Out (List Vl × List Vl)
abbrev TB := L2.St → Hp → (List V × List V → Hp → Prop) → Prop
abbrev RB (N : Nms) (K : PySem.W.Frag) (m : List Addr) (H : Hp) (a : List Vl × List Vl) (b : List V × List V) : Prop := Vrs N K m H a.1 b.1 ∧ Vrs N K m H a.2 b.2
structure PB (X : Cx) (es : List Expr) (kws : List Keyword) (pos : Pos) (ks : List Str) (t : TB) : Prop where
  run : ∀ (f : Value) (first : List Value) (pins : List (Addr × Obj)) (s : Shared) (σ : L2.St) (H : Hp) (Q : List V × List V → Hp → Prop) (Qf : Value → Shared → Prop), PySem.W.keepIn X.K f = true → Inv X pins σ H s → t σ H Q →
    (∀ us ws vs zs s' H', Inv X pins σ H' s' → Vals vs us → Vals zs ws → Q (vs, zs) H' → wpAny (model X.prog X.w) X.A (call f (first ++ us) (ks.zip ws)) Qf X.xe s') →
    wpAny (model X.prog X.w) X.A (callWith pos f first (backTo pos (starEach es X.env)) (backToKw pos (keywordEach kws X.env))) Qf X.xe s
structure SB (N : Nms) (X : Cx) (W : L2.St → XK) (es : List Expr) (kws : List Keyword) (pos : Pos) (ks : List Str) (f : XB) : Prop where
  ex : ∃ t, PB X es kws pos ks t ∧ Sim N X.K (RB N X.K) W t f
structure SK (N : Nms) (X : Cx) (W : L2.St → XK) (kws : List Keyword) (f : XA) : Prop where
  ex : ∃ t, PK X kws t ∧ Sim N X.K (Vrs N X.K) W t f
def bArgs (a k : XA) : XB := fun env S => (a env S).bind fun xs S1 => (k env S1).bind fun zs S2 => .ok (xs, zs) S2
section
variable {N : Nms} {X : Cx} {W : L2.St → XK} {e a b c : Expr} {es rest : List Expr} {fa fb : XE'} {f fk : XA} {pos p kpos : Pos} {x : Str} {kws : List Keyword} {ks : List Str} {nm : Option Str}
theorem sk_nil : SK N X W [] aNil := ⟨_, pk_nil, fun m S H env σ Q s er h => h.ok s .nil⟩
theorem sk_cons (ha : SE N X W e fa) (hr : SK N X W kws fk) : SK N X W (⟨nm, e, kpos⟩ :: kws) (aCons fa fk) := by
  obtain ⟨ta, p1, s1⟩ := ha.ex
  obtain ⟨tr, p2, s2⟩ := hr.ex
  refine ⟨_, pk_cons p1 p2, fun m S H env σ Q s er h => s1.step s er h fun x S1 m1 H1 u e1 sr1 r1 er1 h1 => ?_⟩
  exact s2.step sr1 er1 h1 fun xs S2 m2 H2 us e2 sr2 r2 er2 h2 => h2.ok sr2 (.cons (r1.mono e2) r2)
theorem sb_cons (ha : SA N X W (e :: es) f) (hk : SK N X W kws fk) (hall : (backToKw pos (keywordEach kws X.env)).all (·.1.isSome) = true := by rfl) (hks : (backToKw pos (keywordEach kws X.env)).filterMap (·.1) = ks := by rfl)
    (he : starEach (e :: es) X.env = (false, eval e X.env) :: starEach es X.env := by rfl) (hpl : ((backTo pos (starEach (e :: es) X.env)).any (·.1) || (backToKw pos (keywordEach kws X.env)).any (·.1.isNone)) = false := by rfl) :
    SB N X W (e :: es) kws pos ks (bArgs f fk) := by
  obtain ⟨ta, p1, s1⟩ := ha.ex
  obtain ⟨tk, p2, s2⟩ := hk.ex
  refine ⟨fun σ H Q => ta σ H fun vs H1 => tk σ H1 fun zs H2 => Q (vs, zs) H2, ⟨fun fv first pins s σ H Q Qf hf I h k => ?_⟩, fun m S H env σ Q s er h => s1.step s er h fun x S1 m1 H1 u e1 sr1 r1 er1 h1 => ?_⟩
  · refine PySem.W.callWith_KW (h₀ := X.base) I.ok.mod.kin hf hall (thn (p1.run pos pins s σ H _ I h) fun us s1 ⟨vs, H1, I1, r, q⟩ => ?_) hpl he
    refine thn (p2.run pos pins s1 σ H1 _ I1 q) fun ws s2 ⟨zs, H2, I2, rz, q2⟩ => ⟨I2.kIn, ?_⟩
    rw [hks]
    exact k us ws vs zs s2 H2 I2 r rz q2
  · exact s2.step sr1 er1 h1 fun xs S2 m2 H2 us e2 sr2 r2 er2 h2 => h2.ok sr2 ⟨r1.mono e2, r2⟩
theorem sb_nil (hk : SK N X W kws fk) (hall : (backToKw pos (keywordEach kws X.env)).all (·.1.isSome) = true := by rfl) (hks : (backToKw pos (keywordEach kws X.env)).filterMap (·.1) = ks := by rfl)
    (hpl : ((backTo pos (starEach [] X.env)).any (·.1) || (backToKw pos (keywordEach kws X.env)).any (·.1.isNone)) = false := by rfl) : SB N X W [] kws pos ks (bArgs aNil fk) := by
  obtain ⟨tk, p2, s2⟩ := hk.ex
  refine ⟨fun σ H Q => tk σ H fun zs H2 => Q ([], zs) H2, ⟨fun fv first pins s σ H Q Qf hf I h k => ?_⟩, fun m S H env σ Q s er h => ?_⟩
  · refine PySem.W.callWith_KW0 (h₀ := X.base) I.ok.mod.kin hf hall ?_ hpl
    refine thn (p2.run pos pins s σ H _ I h) fun ws s2 ⟨zs, H2, I2, rz, q2⟩ => ⟨I2.kIn, ?_⟩
    rw [hks]
    exact k [] ws [] zs s2 H2 I2 .nil rz q2
  · exact s2.step s er h fun xs S2 m2 H2 us e2 sr2 r2 er2 h2 => h2.ok sr2 ⟨.nil, r2⟩
end
/-! ### defs -/
/-- the promise of a def that does as mf says -/
def spM (N : Nms) (K : PySem.W.Frag) (np : Nat) (mf : List Vl → Sto → Out Vl) : Sp := fun vs H Q E => ∃ m S args, args.length = np ∧ SR N K m S H ∧ Vrs N K m H args vs ∧ Post N K (Vr N K) m H Q E (mf args S)
/-- a def at f: T tells its text -/
structure FnM (N : Nms) (P : Program) (w : World) (K : PySem.W.Frag) (mg : Str → Option Value) (base : Heap) (CX : CXT) (k : Nat) (f : Addr) (T : FuncData → Prop) (ps : List Str) (mf : List Vl → Sto → Out Vl) : Prop where
  ex : ∃ fd, T fd ∧ PySem.W.keepIn K (.ref f) = true ∧ FnOk P w K mg base CX k f fd ps (spM N K ps.length mf)
theorem FnM.mono {N : Nms} {P : Program} {w : World} {K : PySem.W.Frag} {mg : Str → Option Value} {base : Heap} {CX : CXT} {j k : Nat} {f : Addr} {T : FuncData → Prop} {ps : List Str} {mf : List Vl → Sto → Out Vl} (D : FnM N P w K mg base CX j f T ps mf) (h : j ≤ k) : FnM N P w K mg base CX k f T ps mf := by
  obtain ⟨fd, h1, h2, h3⟩ := D.ex
  exact ⟨fd, h1, h2, h3.mono h⟩
/-- how a call of n values and the keywords ks binds -/
def Bd (N : Nms) (K : PySem.W.Frag) (T : FuncData → Prop) (ps : List Str) (n : Nat) (ks : List Str) (gL : List Vl → List Vl → List Vl) : Prop := ∀ fd, T fd → ∃ g gV, KBn K fd ps n ks g gV ∧
  ∀ m H xs us zs ws, Vrs N K m H xs us → Vrs N K m H zs ws → Vrs N K m H (gL xs zs) (gV us ws)
theorem bd_all {N : Nms} {K : PySem.W.Frag} {x qual : Str} {params : Arguments} {body : List Stmt} {scope : Scope} {kws : List (Str × V)} {f : Addr} {ps : List Str}
    (hb : ∀ (kV doc pm : Value) (an : Option Addr) (cdv ct : Value) (us : List Value), us.length = ps.length → bindArgs (PySem.W.fnOf x qual params body scope .none kV doc pm an cdv ct) ⟨us, []⟩ = pure (ps.zip us)) :
    Bd N K (FunD K x qual params body scope [] kws f) ps ps.length [] (fun xs _ => xs) := fun fd F => by
  have hB := F.bindsN (ps := ps) hb
  refine ⟨fun us _ => us, fun us _ => us, ⟨fun s us ws X l1 l2 => ?_, fun r _ => r⟩, fun m H xs us zs ws r _ => r⟩
  have := hB s us X (by rw [List.append_nil]; exact l1)
  rw [List.append_nil] at this
  exact this
def enter (n : Nat) (args : List Vl) : En := args.map some ++ List.replicate (n - args.length) none
theorem enter_ok {N : Nms} {K : PySem.W.Frag} {m : List Addr} {H : Hp} {L : List Str} {args : List Vl} {vs : List V} (h0 : N.xh = none) (r : Vrs N K m H args vs) : EnR N K m H (enter L.length args) (L2.start L vs) := by
  refine ⟨?_, fun i v h => ?_, fun i a e => by rw [h0] at e; cases e⟩
  · unfold enter L2.start
    rw [List.length_append, List.length_append, List.length_map, List.length_map, r.len, List.length_replicate, List.length_replicate]
  · unfold enter at h
    unfold L2.start
    rcases Nat.lt_or_ge i args.length with q | q
    · rw [List.getElem?_append_left (by rw [List.length_map]; exact q), List.getElem?_map] at h
      rw [List.getElem?_append_left (by rw [List.length_map, ← r.len]; exact q), List.getElem?_map]
      cases z : args[i]? with
      | none => rw [z] at h; cases h
      | some x =>
        rw [z] at h
        cases h
        obtain ⟨u, h1, h2⟩ := r.get z
        exact ⟨u, by rw [h1]; rfl, h2⟩
    · rw [List.getElem?_append_right (by rw [List.length_map]; exact q)] at h
      have := List.mem_of_getElem? h
      rw [List.mem_replicate] at this
      cases this.2
section
variable {X : Cx} {CX : CXT} {k n : Nat} {f C : Addr} {fd : FuncData} {ps ks : List Str} {sp : Sp} {g : List Value → List Value → List Value} {gV : List V → List V → List V}
theorem run_fnG {pins : List (Addr × Obj)} {σ : L2.St} {H : Hp} {s : Shared} {Q : VK} {E : XK} {us ws : List Value} {vs zs : List V} (F : FnOk X.prog X.w X.K X.mg X.base CX k f fd ps sp) (hr : Room k X.A) (hb : KBn X.K fd ps n ks g gV) (hx : PassesAt CX X σ E)
    (I : Inv X pins σ H s) (r : Vals vs us) (rz : Vals zs ws) (l1 : vs.length = n) (l2 : zs.length = ks.length) (h : sp (gV vs zs) H Q E) : wpAny (model X.prog X.w) X.A (call (.ref f) us (ks.zip ws)) (EP X pins σ Q) X.xe s := by
  have r2 := hb.rel r rz
  refine wpAny_call (codeAny_mono (F.run X.A X.stack s H ⟨us, ks.zip ws⟩ (g us ws) (gV vs zs) Q E hr I.env0 (hb.to s us ws I.kIn (r.length.symm.trans l1) (rz.length.symm.trans l2)) r2 h) fun r s' hq => ?_)
  cases r with
  | error e => exact hx pins H s e s' I hq
  | ok fl =>
    cases fl with
    | ret u => exact I.after hq
    | next => exact False.elim hq
    | brk => exact False.elim hq
    | cont => exact False.elim hq
theorem run_makeG {pins : List (Addr × Obj)} {σ : L2.St} {H : Hp} {s : Shared} {Q : VK} {E : XK} {us ws : List Value} {vs zs : List V} (M : Mk X.K C f) (F : FnOk X.prog X.w X.K X.mg X.base CX k f fd ps sp) (hr : Room (k + 1) X.A) (hb : KBn X.K fd ps (n + 1) ks g gV) (hx : PassesAt CX X σ E)
    (I : Inv X pins σ H s) (r : Vals vs us) (rz : Vals zs ws) (l1 : vs.length = n) (l2 : zs.length = ks.length)
    (h : ∀ x dx, H x = none → H dx = none → dx ≠ x → sp (gV (.ref x :: vs) zs) (upd (upd H dx (.own x)) x (.ins C dx [])) (fun v H2 => v = .non ∧ Q (.ref x) H2) E) :
    wpAny (model X.prog X.w) X.A (call (.ref C) us (ks.zip ws)) (EP X pins σ Q) X.xe s := by
  have hq := h (s.heap.objs.size + 1) s.heap.objs.size (I.hok.fresh (Nat.le_succ _)) (I.hok.fresh (Nat.le_refl _)) (Nat.ne_of_lt (Nat.lt_succ_self _))
  have I2 := Inv.made (C := C) I
  have r1 : Vals (V.ref (s.heap.objs.size + 1) :: vs) (Value.ref (s.heap.objs.size + 1) :: us) := .cons rfl r
  have r2 := hb.rel r1 rz
  have n1 : (Value.ref (s.heap.objs.size + 1) :: us).length = n + 1 := by
    rw [List.length_cons, ← r.length, l1]
  refine wpAny_call (make_map (f := f) I.kIn M.makes M.init (beq_iff_eq.mp M.fn) (codeAny_mono (F.run _ X.stack _ _ ⟨Value.ref (s.heap.objs.size + 1) :: us, ks.zip ws⟩ (g (Value.ref (s.heap.objs.size + 1) :: us) ws) _ _ E (hr.make C us (ks.zip ws))
    (I2.env0.make C us (ks.zip ws)) (hb.to _ (Value.ref (s.heap.objs.size + 1) :: us) ws I2.kIn n1 (rz.length.symm.trans l2)) r2 hq) fun r s' hq' => ?_))
  cases r with
  | error e => exact hx pins _ _ e s' I2 hq'
  | ok fl =>
    cases fl with
    | ret u =>
      obtain ⟨v, H', I3, rv, ev, q3⟩ := I2.after hq'
      subst ev
      exact ⟨rv, ⟨V.ref (s.heap.objs.size + 1), H', I3, rfl, q3⟩⟩
    | next => exact False.elim hq'
    | brk => exact False.elim hq'
    | cont => exact False.elim hq'
end
/-! ### the calls by the store -/
def xCall (n : Nat) (np : Nat) (gL : List Vl → List Vl → List Vl) (nk : Nat) (mf : List Vl → Sto → Out Vl) (a : XB) : XE' := fun env S => (a env S).bind fun xz S1 => if xz.1.length = n ∧ xz.2.length = nk ∧ (gL xz.1 xz.2).length = np then mf (gL xz.1 xz.2) S1 else .bad
section
variable {N : Nms} {X : Cx} {W : L2.St → XK} {e o : Expr} {es : List Expr} {fa fb : XE'} {f : XB} {pos p apos : Pos} {x md : Str} {kws : List Keyword} {ks ps : List Str} {CX : CXT} {k n : Nat} {fA : Addr} {T : FuncData → Prop} {mf : List Vl → Sto → Out Vl} {gL : List Vl → List Vl → List Vl}
theorem se_call (F : FnM N X.prog X.w X.K X.mg X.base CX k fA T ps mf) (B : Bd N X.K T ps n ks gL) (hr : Room k X.A) (hg : Gl X x) (hm : X.mg x = some (.ref fA)) (hx : ∀ σ, PassesAt CX X σ (W σ)) (ha : SB N X W es kws pos ks f)
    (hdb : (x == ("__debug__" : Str)) = false := by decide) : SE N X W (.Call (.Name x p) es kws pos) (xCall n ps.length gL ks.length mf f) := by
  obtain ⟨fd, hT, hk, F⟩ := F.ex
  obtain ⟨g, gV, hb, hc⟩ := B fd hT
  obtain ⟨tb, p1, s1⟩ := ha.ex
  refine ⟨fun σ H Q => tb σ H fun vz H1 => vz.1.length = n ∧ vz.2.length = ks.length ∧ spM N X.K ps.length mf (gV vz.1 vz.2) H1 Q (W σ), ⟨fun pins s σ H Q I h => ?_⟩, fun m S H env σ Q s er h => s1.step s er h fun xz S1 m1 H1 u e1 sr1 r1 er1 h1 => ?_⟩
  · refine wpAny_Call_Name_kw (ld_glob I hg hm ?_ hdb)
    exact p1.run _ [] pins s σ H _ _ hk I h fun us ws vs zs s' H' I' r rz q => run_fnG F hr hb (hx σ) I' r rz q.1 q.2.1 q.2.2
  · split at h1
    · rename_i hl
      exact ⟨by rw [← r1.1.len]; exact hl.1, by rw [← r1.2.len]; exact hl.2.1, m1, S1, _, hl.2.2, sr1, hc m1 H1 _ _ _ _ r1.1 r1.2, h1⟩
    · exact h1.elim
/-- a new instance -/
def xMake (c n np : Nat) (gL : List Vl → List Vl → List Vl) (nk : Nat) (mf : List Vl → Sto → Out Vl) (a : XB) : XE' := fun env S => (a env S).bind fun xz S1 => if xz.1.length = n ∧ xz.2.length = nk ∧ (gL (.ref S1.length :: xz.1) xz.2).length = np then
  (mf (gL (.ref S1.length :: xz.1) xz.2) (S1 ++ [.ins c []])).bind fun v S2 => match v with
    | .non => .ok (.ref S1.length) S2
    | _ => .bad
  else .bad
theorem se_make {c : Nat} (F : FnM N X.prog X.w X.K X.mg X.base CX k fA T ps mf) (M : Mk X.K (He.ga X.K (N.g c)) fA) (B : Bd N X.K T ps (n + 1) ks gL) (hr : Room (k + 1) X.A) (hg : Gl X x) (hm : X.mg x = some (.ref (He.ga X.K (N.g c)))) (hx : ∀ σ, PassesAt CX X σ (W σ)) (ha : SB N X W es kws pos ks f)
    (hdb : (x == ("__debug__" : Str)) = false := by decide) : SE N X W (.Call (.Name x p) es kws pos) (xMake c n ps.length gL ks.length mf f) := by
  obtain ⟨fd, hT, hk, F⟩ := F.ex
  obtain ⟨g, gV, hb, hc⟩ := B fd hT
  obtain ⟨tb, p1, s1⟩ := ha.ex
  refine ⟨fun σ H Q => tb σ H fun vz H1 => vz.1.length = n ∧ vz.2.length = ks.length ∧ ∀ x dx, H1 x = none → H1 dx = none → dx ≠ x → spM N X.K ps.length mf (gV (.ref x :: vz.1) vz.2) (upd (upd H1 dx (.own x)) x (.ins (He.ga X.K (N.g c)) dx [])) (fun v H2 => v = .non ∧ Q (.ref x) H2) (W σ),
    ⟨fun pins s σ H Q I h => ?_⟩, fun m S H env σ Q s er h => s1.step s er h fun xz S1 m1 H1 u e1 sr1 r1 er1 h1 => ?_⟩
  · refine wpAny_Call_Name_kw (ld_glob I hg hm ?_ hdb)
    exact p1.run _ [] pins s σ H _ _ M.kp I h fun us ws vs zs s' H' I' r rz q => run_makeG M F hr hb (hx σ) I' r rz q.1 q.2.1 q.2.2
  · split at h1
    · rename_i hl
      refine ⟨by rw [← r1.1.len]; exact hl.1, by rw [← r1.2.len]; exact hl.2.1, fun y dx hy hdx hn => ?_⟩
      have hS : Same H1 (upd (upd H1 dx (.own y)) y (.ins (He.ga X.K (N.g c)) dx [])) := fun b o hb => by
        rw [upd_ne (ne_of_none hb hy), upd_ne (ne_of_none hb hdx)]; exact hb
      have ex := Ext.app (K := X.K) (m := m1) (p := y) hS
      have sr2 := sr1.new (p := y) hS hy upd_same (.ins (c := c) (dx := dx) .nil)
      refine ⟨m1 ++ [y], S1 ++ [.ins c []], _, hl.2.2, sr2, hc _ _ _ _ _ _ (.cons sr1.ref_new (r1.1.mono ex)) (r1.2.mono ex), ?_⟩
      cases q : mf (gL (Vl.ref (List.length S1) :: xz.1) xz.2) (S1 ++ [Ob.ins c []]) with
      | ok v S2 =>
        rw [q] at h1
        cases v with
        | non => exact fun m' H' u' e' s' r' => ⟨by cases r'; rfl, (Post.mono ex h1).to e' s' ((sr1.ref_new (H' := H1)).mono (Ext.trans (Ext.refl (H := H1)) ⟨e'.pre, fun a xs h => e'.tup a xs (ex.tup a xs h), fun a xs h => e'.ktp a xs (ex.ktp a xs h), fun a xs h => e'.scr a xs (ex.scr a xs h)⟩))⟩
        | _ => exact h1.elim
      | err c' x' S2 =>
        rw [q] at h1
        exact Post.mono ex h1
      | bad =>
        rw [q] at h1
        exact h1.elim
    · exact h1.elim

/-! ### methods -/
structure MT where
  n : Nat
  np : Nat
  nk : Nat
  gL : List Vl → List Vl → List Vl
  mf : List Vl → Sto → Out Vl
def xMeth (tb : List (Nat × MT)) (o : XE') (a : XB) : XE' := fun env S => (o env S).bind fun ov S1 => match ov with
  | .ref i => match S1[i]? with
    | some (.ins c _) => match tb.lookup c with
      | some M => (a env S1).bind fun xz S2 => if xz.1.length = M.n ∧ xz.2.length = M.nk ∧ (M.gL (ov :: xz.1) xz.2).length = M.np then M.mf (M.gL (ov :: xz.1) xz.2) S2 else .bad
      | none => .bad
    | _ => .bad
  | _ => .bad
def MOk (N : Nms) (X : Cx) (W : L2.St → XK) (k : Nat) (md : Str) (ks : List Str) (c : Nat) (M : MT) : Prop := ∃ CX fA T ps, FnM N X.prog X.w X.K X.mg X.base CX k fA T ps M.mf ∧ Bd N X.K T ps (M.n + 1) ks M.gL ∧ Cls X.K (He.ga X.K (N.g c)) ∧ Meth X.K (He.ga X.K (N.g c)) md fA ∧ M.np = ps.length ∧ M.nk = ks.length ∧ ∀ σ, PassesAt CX X σ (W σ)
inductive MOks (N : Nms) (X : Cx) (W : L2.St → XK) (k : Nat) (md : Str) (ks : List Str) : List (Nat × MT) → Prop
  | nil : MOks N X W k md ks []
  | cons {c : Nat} {M : MT} {l : List (Nat × MT)} : MOk N X W k md ks c M → MOks N X W k md ks l → MOks N X W k md ks ((c, M) :: l)
theorem MOks.at_ {md : Str} {ks : List Str} : ∀ {l : List (Nat × MT)} {c : Nat} {M : MT}, MOks N X W k md ks l → l.lookup c = some M → MOk N X W k md ks c M
  | _, _, _, .nil, h => by cases h
  | (c', M') :: l, c, M, .cons h r, e => by
    rw [List.lookup_cons] at e
    cases q : c == c' with
    | true =>
      rw [q] at e
      cases e
      rw [eq_of_beq q]
      exact h
    | false =>
      rw [q] at e
      exact r.at_ e
theorem FR.look {K : PySem.W.Frag} {m : List Addr} {H : Hp} {k : Nat} : ∀ {fs : List (Nat × Vl)} {gs : List (Str × V)} {v : Vl}, FR N K m H fs gs → fs.lookup k = some v → ∃ u, gs.lookup (N.f k) = some u ∧ Vr N K m H v u
  | _, _, _, .nil, h => by cases h
  | (k', x) :: fs, _, v, .cons (u := u) (us := us) h r, e => by
    rw [List.lookup_cons] at e
    rw [List.lookup_cons]
    cases q : k == k' with
    | true =>
      rw [q] at e
      cases e
      have q' : (N.f k == N.f k') = true := by rw [eq_of_beq q]; exact beq_self_eq_true _
      rw [q']
      exact ⟨u, rfl, h⟩
    | false =>
      rw [q] at e
      have q' : (N.f k == N.f k') = false := beq_eq_false_iff_ne.mpr fun z => by
        have := N.fi _ _ z
        rw [this] at q
        rw [beq_self_eq_true] at q
        cases q
      rw [q']
      exact FR.look r e
theorem FR.none {K : PySem.W.Frag} {m : List Addr} {H : Hp} {md : Str} (hm : ∀ k, N.f k ≠ md) : ∀ {fs : List (Nat × Vl)} {gs : List (Str × V)}, FR N K m H fs gs → gs.lookup md = none
  | _, _, .nil => rfl
  | (k', x) :: fs, _, .cons h r => by
    rw [List.lookup_cons]
    have q' : (md == N.f k') = false := beq_eq_false_iff_ne.mpr fun z => hm k' z.symm
    rw [q']
    exact FR.none hm r
theorem se_meth {tb : List (Nat × MT)} {pl : Sem Bool} (hM : MOks N X W k md ks tb) (hmd : ∀ i, N.f i ≠ md) (hr : Room k X.A) (ho : SE N X W o fa) (ha : SB N X W es kws pos ks f)
    (ht : eval (.Call (.Attribute o md apos) es kws pos) X.env = (do
      let ov ← eval o X.env
      standAt apos.atName
      let (f, first) ← holding [ov] (getMethod ov md pl)
      callWith pos f first (backTo pos (starEach es X.env)) (backToKw pos (keywordEach kws X.env))) := by rfl) :
    SE N X W (.Call (.Attribute o md apos) es kws pos) (xMeth tb fa f) := by
  obtain ⟨to, p0, s0⟩ := ho.ex
  obtain ⟨tb', p1, s1⟩ := ha.ex
  refine ⟨fun σ H Q => to σ H fun xv H1 => ∃ (a dx : Addr) (c : Nat) (gs : List (Str × V)) (M : MT), xv = .ref a ∧ H1 a = some (.ins (He.ga X.K (N.g c)) dx gs) ∧ gs.lookup md = none ∧ tb.lookup c = some M ∧
    ∃ (CX : CXT) (fA : Addr) (fd : FuncData) (ps : List Str) (g : List Value → List Value → List Value) (gV : List V → List V → List V), FnOk X.prog X.w X.K X.mg X.base CX k fA fd ps (spM N X.K M.np M.mf) ∧ KBn X.K fd ps (M.n + 1) ks g gV ∧ Cls X.K (He.ga X.K (N.g c)) ∧ Meth X.K (He.ga X.K (N.g c)) md fA ∧ (∀ σ, PassesAt CX X σ (W σ)) ∧
    tb' σ H1 fun vz H2 => vz.1.length = M.n ∧ vz.2.length = ks.length ∧ spM N X.K M.np M.mf (gV (xv :: vz.1) vz.2) H2 Q (W σ), ⟨fun pins s σ H Q I h => ?_⟩, fun m S H env σ Q s er h => s0.step s er h fun ov S1 m1 H1 u e1 sr1 r1 er1 h1 => ?_⟩
  · refine PySem.W.methodCall_KW (pl := pl) (thn (p0.run pins s σ H _ I h) fun u s1 ⟨xv, H1, I1, rx, a, dx, c, gs, M, ex, ea, l, hl, CX, fA, fd, ps, g, gV, F, hb, hC, hMe, hx, q⟩ => ?_) ht
    subst ex
    obtain rfl : u = Value.ref a := rx
    refine getmeth_ok I1 ea hC hMe l ?_
    exact p1.run _ [.ref a] pins s1 σ H1 _ _ hMe.kp I1 q fun us ws vs zs s' H' I' r rz q => run_fnG (us := .ref a :: us) (vs := .ref a :: vs) F hr hb (hx σ) I' (.cons rfl r) rz (by rw [List.length_cons, q.1]) q.2.1 q.2.2
  · split at h1
    · rename_i i
      split at h1
      · rename_i c fs hS
        split at h1
        · rename_i M hl
          obtain ⟨a, rfl, hma⟩ := r1.ref'
          obtain ⟨dx, gs, hH, hf⟩ := sr1.ins hma hS
          obtain ⟨CX, fA, T, ps, F, B, hC, hMe, e1', e2', hx⟩ := hM.at_ hl
          obtain ⟨fd, hT, hk, F⟩ := F.ex
          obtain ⟨g, gV, hb, hc⟩ := B fd hT
          refine ⟨a, dx, c, gs, M, rfl, hH, hf.none hmd, hl, CX, fA, fd, ps, g, gV, by rw [e1']; exact F, hb, hC, hMe, hx, ?_⟩
          refine s1.step sr1 er1 h1 fun xz S2 m2 H2 u2 e2 sr2 r2 er2 h2 => ?_
          split at h2
          · rename_i hl2
            exact ⟨by rw [← r2.1.len]; exact hl2.1, by rw [← r2.2.len, hl2.2.1, e2'], m2, S2, _, hl2.2.2, sr2, hc m2 H2 _ _ _ _ (.cons (r1.mono e2) r2.1) r2.2, h2⟩
          · exact h2.elim
        · exact h1.elim
      · exact h1.elim
    · exact h1.elim
/-! ### fields -/
def xFld (k : Nat) (cs : List Nat) (o : XE') : XE' := fun env S => (o env S).bind fun ov S1 => match ov with
  | .ref i => match S1[i]? with
    | some (.ins c fs) => if cs.contains c = true then match fs.lookup k with
      | some v => .ok v S1
      | none => .bad
      else .bad
    | _ => .bad
  | _ => .bad
/-- the classes cs have the field f -/
inductive FOk (N : Nms) (K : PySem.W.Frag) (f : Str) : List Nat → Prop
  | nil : FOk N K f []
  | cons {c : Nat} {l : List Nat} : Cls K (He.ga K (N.g c)) → NoAttr K (He.ga K (N.g c)) f → FOk N K f l → FOk N K f (c :: l)
theorem FOk.at_ {K : PySem.W.Frag} {fl : Str} : ∀ {l : List Nat} {c : Nat}, FOk N K fl l → l.contains c = true → Cls K (He.ga K (N.g c)) ∧ NoAttr K (He.ga K (N.g c)) fl
  | _, _, .nil, h => by cases h
  | c' :: l, c, .cons h1 h2 r, e => by
    rw [List.contains_cons, Bool.or_eq_true] at e
    rcases e with e | e
    · rw [eq_of_beq e]; exact ⟨h1, h2⟩
    · exact r.at_ e
theorem se_fld (k : Nat) {cs : List Nat} (hF : FOk N X.K (N.f k) cs) (he : SE N X W o fa) (hb : attributeBase o (N.f k) X.env (eval o X.env) = eval o X.env := by rfl) : SE N X W (.Attribute o (N.f k) pos) (xFld k cs fa) := by
  obtain ⟨to, p0, s0⟩ := he.ex
  refine ⟨_, pe_fld p0 hb, fun m S H env σ Q s er h => s0.step s er h fun ov S1 m1 H1 u e1 sr1 r1 er1 h1 => ?_⟩
  split at h1
  · split at h1
    · rename_i c fs hS
      split at h1
      · rename_i hc
        split at h1
        · rename_i v hv
          obtain ⟨a, rfl, hma⟩ := r1.ref'
          obtain ⟨dx, gs, hH, hf⟩ := sr1.ins hma hS
          obtain ⟨u', h2, h3⟩ := hf.look hv
          obtain ⟨c1, c2⟩ := hF.at_ hc
          exact ⟨a, _, dx, gs, u', rfl, hH, c1, c2, h2, h1.ok sr1 h3⟩
        · exact h1.elim
      · exact h1.elim
    · exact h1.elim
  · exact h1.elim
/-! ### a def in a slot -/
def xCallV (tb : List (Nat × MT)) (i : Nat) (a : XB) : XE' := fun env S => match env[i]? with
  | some (some (.fn q)) => match tb.lookup q with
    | some M => (a env S).bind fun xz S2 => if xz.1.length = M.n ∧ xz.2.length = M.nk ∧ (M.gL xz.1 xz.2).length = M.np then M.mf (M.gL xz.1 xz.2) S2 else .bad
    | none => .bad
  | _ => .bad
def VOk (N : Nms) (X : Cx) (W : L2.St → XK) (k : Nat) (ks : List Str) (q : Nat) (M : MT) : Prop := ∃ CX T ps, FnM N X.prog X.w X.K X.mg X.base CX k (He.ga X.K (N.g q)) T ps M.mf ∧ Bd N X.K T ps M.n ks M.gL ∧ M.np = ps.length ∧ M.nk = ks.length ∧ ∀ σ, PassesAt CX X σ (W σ)
inductive VOks (N : Nms) (X : Cx) (W : L2.St → XK) (k : Nat) (ks : List Str) : List (Nat × MT) → Prop
  | nil : VOks N X W k ks []
  | cons {c : Nat} {M : MT} {l : List (Nat × MT)} : VOk N X W k ks c M → VOks N X W k ks l → VOks N X W k ks ((c, M) :: l)
theorem VOks.at_ {ks : List Str} : ∀ {l : List (Nat × MT)} {c : Nat} {M : MT}, VOks N X W k ks l → l.lookup c = some M → VOk N X W k ks c M
  | _, _, _, .nil, h => by cases h
  | (c', M') :: l, c, M, .cons h r, e => by
    rw [List.lookup_cons] at e
    cases q : c == c' with
    | true =>
      rw [q] at e
      cases e
      rw [eq_of_beq q]
      exact h
    | false =>
      rw [q] at e
      exact r.at_ e
theorem se_callV {i : Nat} {tb : List (Nat × MT)} (hM : VOks N X W k ks tb) (hr : Room k X.A) (hN : X.N[i]? = some x) (hv : Vis X.env.scope x) (ha : SB N X W es kws pos ks f) (hdb : (x == ("__debug__" : Str)) = false := by decide) (hcd : (x == ("__classdict__" : Str)) = false := by decide) :
    SE N X W (.Call (.Name x p) es kws pos) (xCallV tb i f) := by
  obtain ⟨tb', p1, s1⟩ := ha.ex
  refine ⟨fun σ H Q => ∃ (q : Nat) (M : MT), σ[i]? = some (some (.ref (He.ga X.K (N.g q)))) ∧ tb.lookup q = some M ∧
    ∃ (CX : CXT) (fd : FuncData) (ps : List Str) (g : List Value → List Value → List Value) (gV : List V → List V → List V), PySem.W.keepIn X.K (.ref (He.ga X.K (N.g q))) = true ∧ FnOk X.prog X.w X.K X.mg X.base CX k (He.ga X.K (N.g q)) fd ps (spM N X.K M.np M.mf) ∧ KBn X.K fd ps M.n ks g gV ∧ (∀ σ, PassesAt CX X σ (W σ)) ∧
    tb' σ H fun vz H2 => vz.1.length = M.n ∧ vz.2.length = ks.length ∧ spM N X.K M.np M.mf (gV vz.1 vz.2) H2 Q (W σ), ⟨fun pins s σ H Q I h => ?_⟩, fun m S H env σ Q s er h => ?_⟩
  · obtain ⟨q, M, hs, hl, CX, fd, ps, g, gV, hk, F, hb, hx, ht⟩ := h
    refine wpAny_Call_Name_kw (thn ((pe_var (pos := p) hN hv hdb hcd).run pins s σ H (fun v H1 => v = .ref (He.ga X.K (N.g q)) ∧ H1 = H) I ⟨_, hs, rfl, rfl⟩) fun u s1 ⟨v, H1, I1, r1, q1⟩ => ?_)
    obtain ⟨rfl, rfl⟩ := q1
    cases r1
    exact p1.run _ [] pins s1 σ _ _ _ hk I1 ht fun us ws vs zs s' H' I' r rz q => run_fnG F hr hb (hx σ) I' r rz q.1 q.2.1 q.2.2
  · unfold xCallV at h
    split at h
    · rename_i q hq
      split at h
      · rename_i M hl
        obtain ⟨u, h1, h2⟩ := er.at_ _ _ hq
        cases h2.fn'
        obtain ⟨CX, T, ps, F, B, e1', e2', hx⟩ := hM.at_ hl
        obtain ⟨fd, hT, hk, F⟩ := F.ex
        obtain ⟨g, gV, hb, hc⟩ := B fd hT
        refine ⟨q, M, h1, hl, CX, fd, ps, g, gV, hk, by rw [e1']; exact F, hb, hx, ?_⟩
        refine s1.step s er h fun xz S2 m2 H2 u2 e2 sr2 r2 er2 h2 => ?_
        split at h2
        · rename_i hl2
          exact ⟨by rw [← r2.1.len]; exact hl2.1, by rw [← r2.2.len, hl2.2.1, e2'], m2, S2, _, hl2.2.2, sr2, hc m2 H2 _ _ _ _ r2.1 r2.2, h2⟩
        · exact h2.elim
      · exact h.elim
    · exact h.elim
end
end Nt

namespace Nt
open PySem PySem.Spec PyProof.Rows L2 Evl
/-! ### statements -/
inductive Fl where
  | nx (e : En) | rt (v : Vl) | bk (e : En) | ct (e : En) | er (c : Nat) (x : Option Nat) (e : En)
abbrev ZS := En → Sto → Out Fl
def PostS (N : Nms) (K : PySem.W.Frag) (m : List Addr) (H : Hp) (D : Ends) (W : L2.St → XK) : Out Fl → Prop
  | .ok (.nx e) S' => ∀ m' H' σ', Ext K m H m' H' → SR N K m' S' H' → EnR N K m' H' e σ' → D.nx σ' H'
  | .ok (.bk e) S' => ∀ m' H' σ', Ext K m H m' H' → SR N K m' S' H' → EnR N K m' H' e σ' → D.bk σ' H'
  | .ok (.ct e) S' => ∀ m' H' σ', Ext K m H m' H' → SR N K m' S' H' → EnR N K m' H' e σ' → D.ct σ' H'
  | .ok (.rt v) S' => ∀ m' H' u, Ext K m H m' H' → SR N K m' S' H' → Vr N K m' H' v u → D.rt u H'
  | .ok (.er c x e) S' => ∀ m' H' d σ', Ext K m H m' H' → SR N K m' S' H' → EnR N K m' H' e σ' → XD m' x d → W σ' (.ref (He.ga K (N.g c))) d H'
  | .err _ _ _ => False
  | .bad => False
def SimS (N : Nms) (K : PySem.W.Frag) (W : L2.St → XK) (t : TS) (f : ZS) : Prop := ∀ m S H env σ D, SR N K m S H → EnR N K m H env σ → PostS N K m H D W (f env S) → t D σ H
structure SS (N : Nms) (X : Cx) (W : L2.St → XK) (st : Stmt) (f : ZS) : Prop where
  ex : ∃ t, PS X st t ∧ SimS N X.K W t f
structure SSs (N : Nms) (X : Cx) (W : L2.St → XK) (st : List Stmt) (f : ZS) : Prop where
  ex : ∃ t, PSs X st t ∧ SimS N X.K W t f
def Out.bindS {α : Type} (o : Out α) (env : En) (f : α → Sto → Out Fl) : Out Fl := match o with
  | .ok a S => f a S
  | .err c x S => .ok (.er c x env) S
  | .bad => .bad
@[simp] theorem Out.bindS_ok {α : Type} {a : α} {S : Sto} {env : En} {f : α → Sto → Out Fl} : (Out.ok a S).bindS env f = f a S := rfl
@[simp] theorem Out.bindS_err {α : Type} {c : Nat} {x : Option Nat} {S : Sto} {env : En} {f : α → Sto → Out Fl} : (Out.err c x S : Out α).bindS env f = .ok (.er c x env) S := rfl
@[simp] theorem Out.bindS_bad {α : Type} {env : En} {f : α → Sto → Out Fl} : (Out.bad : Out α).bindS env f = .bad := rfl
section
variable {α β : Type} {N : Nms} {K : PySem.W.Frag} {R : List Addr → Hp → α → β → Prop} {m m1 : List Addr} {H H1 : Hp} {Q : β → Hp → Prop} {W : L2.St → XK} {D : Ends}
theorem PostS.mono {o : Out Fl} (e : Ext K m H m1 H1) (h : PostS N K m H D W o) : PostS N K m1 H1 D W o := by
  cases o with
  | ok v S =>
    cases v with
    | er c x e2 => exact fun m' H' d σ' e' => h m' H' d σ' (e.trans e')
    | nx _ => exact fun m' H' u e' => h m' H' u (e.trans e')
    | rt _ => exact fun m' H' u e' => h m' H' u (e.trans e')
    | bk _ => exact fun m' H' u e' => h m' H' u (e.trans e')
    | ct _ => exact fun m' H' u e' => h m' H' u (e.trans e')
  | err c x S => exact h
  | bad => exact h
theorem Sim.stepS {t : L2.St → Hp → (β → Hp → Prop) → Prop} {f : En → Sto → Out α} {g : α → Sto → Out Fl} {S : Sto} {env : En} {σ : L2.St} (h : Sim N K R W t f) (s : SR N K m S H) (er : EnR N K m H env σ) (hp : PostS N K m H D W ((f env S).bindS env g))
    (k : ∀ a S1 m1 H1 u, Ext K m H m1 H1 → SR N K m1 S1 H1 → R m1 H1 a u → EnR N K m1 H1 env σ → PostS N K m1 H1 D W (g a S1) → Q u H1) : t σ H Q := by
  refine h m S H env σ Q s er ?_
  cases q : f env S with
  | ok v S1 =>
    rw [q] at hp
    exact fun m' H' u e s' r => k v S1 m' H' u e s' r (er.mono e) (PostS.mono e hp)
  | err c x S1 =>
    rw [q] at hp
    exact fun m' H' d e s' x' => hp m' H' d σ e s' (er.mono e) x'
  | bad =>
    rw [q] at hp
    exact hp
/-- what is wished changes only behind the block -/
theorem PostS.seq {D' : Ends} {o : Out Fl} {g : ZS} (h : PostS N K m H D W (match o with | .ok (.nx e) S => g e S | o => o)) (hn : ∀ e S m' H' σ', o = .ok (.nx e) S → Ext K m H m' H' → SR N K m' S H' → EnR N K m' H' e σ' → PostS N K m' H' D W (g e S) → D'.nx σ' H')
    (e1 : D'.rt = D.rt) (e2 : D'.bk = D.bk) (e3 : D'.ct = D.ct) : PostS N K m H D' W o := by
  cases o with
  | ok v S =>
    cases v with
    | nx e => exact fun m' H' σ' e' s' r' => hn e S m' H' σ' rfl e' s' r' (PostS.mono e' h)
    | rt v => exact fun m' H' u e' s' r' => by rw [e1]; exact h m' H' u e' s' r'
    | bk e => exact fun m' H' u e' s' r' => by rw [e2]; exact h m' H' u e' s' r'
    | ct e => exact fun m' H' u e' s' r' => by rw [e3]; exact h m' H' u e' s' r'
    | er c x e => exact h
  | err c x S => exact h
  | bad => exact h
end
def zNil : ZS := fun env S => .ok (.nx env) S
def zSeq (f g : ZS) : ZS := fun env S => match f env S with
  | .ok (.nx e) S' => g e S'
  | o => o
def zDrop (a : XE') : ZS := fun env S => (a env S).bindS env fun _ S1 => .ok (.nx env) S1
def zRet (a : XE') : ZS := fun env S => (a env S).bindS env fun v S1 => .ok (.rt v) S1
def zIf (t : XT) (f g : ZS) : ZS := fun env S => (t env S).bindS env fun b S1 => if b = true then f env S1 else g env S1
def zBrk : ZS := fun env S => .ok (.bk env) S
def zCnt : ZS := fun env S => .ok (.ct env) S
abbrev GM := Vl → En → Sto → Out En
def zAsg (a : XE') (g : GM) : ZS := fun env S => (a env S).bindS env fun v S1 => (g v env S1).bindS env fun e S2 => .ok (.nx e) S2
/-- a target -/
def SimG (N : Nms) (K : PySem.W.Frag) (W : L2.St → XK) (t : TG) (g : GM) : Prop := ∀ m S H env σ v u Q, SR N K m S H → EnR N K m H env σ → Vr N K m H v u → Post N K (EnR N K) m H Q (W σ) (g v env S) → t u σ H Q
structure SG (N : Nms) (X : Cx) (W : L2.St → XK) (tg : Expr) (g : GM) : Prop where
  ex : ∃ t, PG X tg t ∧ SimG N X.K W t g
abbrev GMs := List Vl → En → Sto → Out En
def SimGs (N : Nms) (K : PySem.W.Frag) (W : L2.St → XK) (t : TGs) (g : GMs) : Prop := ∀ m S H env σ vs us Q, SR N K m S H → EnR N K m H env σ → Vrs N K m H vs us → Post N K (EnR N K) m H Q (W σ) (g vs env S) → t us σ H Q
structure SGs (N : Nms) (X : Cx) (W : L2.St → XK) (tg : List Expr) (g : GMs) : Prop where
  ex : ∃ t, PGs X tg t ∧ SimGs N X.K W t g
section
variable {N : Nms} {X : Cx} {W : L2.St → XK} {e a b c : Expr} {st : Stmt} {rest body orelse : List Stmt} {es : List Expr} {fa fb : XE'} {f g : ZS} {ft : XT} {pos p pos' : Pos} {x : Str}
theorem sss_nil : SSs N X W [] zNil := ⟨_, pss_nil, fun m S H env σ D s er h => h m H σ Ext.refl s er⟩
theorem sss_cons (h1 : SS N X W st f) (h2 : SSs N X W rest g) : SSs N X W (st :: rest) (zSeq f g) := by
  obtain ⟨t1, p1, s1⟩ := h1.ex
  obtain ⟨t2, p2, s2⟩ := h2.ex
  exact ⟨_, pss_cons p1 p2, fun m S H env σ D s er h => s1 m S H env σ _ s er (PostS.seq (D := D) h (fun e S' m' H' σ' _ e' s' r' hp => s2 m' S' H' e σ' D s' r' hp) rfl rfl rfl)⟩
theorem ss_expr (h : SE N X W e fa) (hs : swapsWith e none pos.line X.env = pure false := by rfl) : SS N X W (.Expr e pos) (zDrop fa) := by
  obtain ⟨t1, p1, s1⟩ := h.ex
  exact ⟨_, ps_expr p1 hs, fun m S H env σ D s er h => s1.stepS s er h fun v S1 m1 H1 u e1 sr1 r1 er1 h1 => h1 m1 H1 σ Ext.refl sr1 er1⟩
theorem ss_ret (h : SE N X W e fa) : SS N X W (.Return (some e) pos) (zRet fa) := by
  obtain ⟨t1, p1, s1⟩ := h.ex
  exact ⟨_, ps_ret p1, fun m S H env σ D s er h => s1.stepS s er h fun v S1 m1 H1 u e1 sr1 r1 er1 h1 => h1 m1 H1 u Ext.refl sr1 r1⟩
theorem ss_if (hc : ST N X W c ft) (h1 : SSs N X W body f) (h2 : SSs N X W orelse g) : SS N X W (.If c body orelse pos) (zIf ft f g) := by
  obtain ⟨t0, p0, s0⟩ := hc.ex
  obtain ⟨t1, p1, s1⟩ := h1.ex
  obtain ⟨t2, p2, s2⟩ := h2.ex
  refine ⟨_, ps_if p0 p1 p2, fun m S H env σ D s er h => s0.stepS s er h fun v S1 m1 H1 u e1 sr1 r1 er1 h1 => ?_⟩
  cases r1
  cases v with
  | true => exact s1 m1 S1 H1 env σ D sr1 er1 h1
  | false => exact s2 m1 S1 H1 env σ D sr1 er1 h1
theorem ss_pass : SS N X W (.Pass pos) zNil := ⟨_, ps_pass, fun m S H env σ D s er h => h m H σ Ext.refl s er⟩
theorem ss_break : SS N X W (.Break pos) zBrk := ⟨_, ps_break, fun m S H env σ D s er h => h m H σ Ext.refl s er⟩
theorem ss_continue : SS N X W (.Continue pos) zCnt := ⟨_, ps_continue, fun m S H env σ D s er h => h m H σ Ext.refl s er⟩
theorem SSs.nox (h : SSs N X.nox W body f) : SSs N X W body f := by
  obtain ⟨t, p, s⟩ := h.ex
  exact ⟨t, PSs.nox p, s⟩
/-! targets -/
def gmName (i : Nat) : GM := fun v env S => .ok (env.set i (some v)) S
theorem sg_name {i : Nat} (hN : X.N.Nodup) (hi : X.N[i]? = some x) (hx : Loc X.env.scope x) (hf : X.fn x = true ∨ X.env.scope.names.lookup x = some .local := by first | exact .inl rfl | exact .inr rfl | assumption) (hfr : N.fr i := by first | exact Nms.fr0 rfl | exact Nms.frh rfl) : SG N X W (.Name x pos) (gmName i) :=
  ⟨_, pg_name hN hi hx hf, fun m S H env σ v u Q s er r h => h.ok s (er.set hfr r)⟩
theorem ss_asg {tg : Expr} {gm : GM} (he : SE N X W e fa) (hg : SG N X W tg gm) (hs : swapsWithSole [tg] e pos.line X.env = pure false := by rfl) (hw : swappedStores [tg] e X.env = pure none := by rfl)
    (h1 : (assignEach [tg] X.env).map (·.2) = [assign tg X.env] := by rfl) : SS N X W (.Assign [tg] e pos) (zAsg fa gm) := by
  obtain ⟨t1, p1, s1⟩ := he.ex
  obtain ⟨t2, p2, s2⟩ := hg.ex
  refine ⟨_, ps_asg p1 p2 hs hw h1, fun m S H env σ D s er h => s1.stepS s er h fun v S1 m1 H1 u e1 sr1 r1 er1 h1 => ?_⟩
  refine s2 m1 S1 H1 env σ v u _ sr1 er1 r1 ?_
  cases q : gm v env S1 with
  | ok e2 S2 => rw [q] at h1; exact h1
  | err c' x' S2 => rw [q] at h1; exact fun m' H' d e' s' x' => h1 m' H' d σ e' s' (er1.mono e') x'
  | bad => rw [q] at h1; exact h1
theorem ss_set {i : Nat} (hN : X.N.Nodup) (hi : X.N[i]? = some x) (hx : Loc X.env.scope x) (he : SE N X W e fa) (hs : swapsWith e (some (.Name x pos')) pos.line X.env = pure false := by rfl) (hf : X.fn x = true ∨ X.env.scope.names.lookup x = some .local := by first | exact .inl rfl | exact .inr rfl | assumption) (hfr : N.fr i := by first | exact Nms.fr0 rfl | exact Nms.frh rfl) :
    SS N X W (.Assign [.Name x pos'] e pos) (zAsg fa (gmName i)) := by
  obtain ⟨t1, p1, s1⟩ := he.ex
  exact ⟨_, ps_set hN hi hx p1 hs hf, fun m S H env σ D s er h => s1.stepS s er h fun v S1 m1 H1 u e1 sr1 r1 er1 h1 => h1 m1 H1 _ Ext.refl sr1 (er1.set hfr r1)⟩
def gmsNil : GMs := fun vs env S => match vs with
  | [] => .ok env S
  | _ => .bad
def gmsCons (g : GM) (r : GMs) : GMs := fun vs env S => match vs with
  | v :: vs => (g v env S).bind fun e S1 => r vs e S1
  | _ => .bad
theorem sgs_nil : SGs N X W [] gmsNil := ⟨_, pgs_nil, fun m S H env σ vs us Q s er r h => by
  cases r with
  | nil => exact ⟨rfl, h.ok s er⟩
  | cons _ _ => exact h.elim⟩
/-- the targets store to names alone, so that what is raised is raised at the same slots -/
theorem sgs_cons {gm : GM} {gms : GMs} (h1 : SG N X W e gm) (h2 : SGs N X W es gms) (hW : ∀ σ σ', W σ = W σ' := by exact fun _ _ => rfl)
    (hs : (assignEach (e :: es) X.env).map (·.2) = assign e X.env :: (assignEach es X.env).map (·.2) := by rfl) : SGs N X W (e :: es) (gmsCons gm gms) := by
  obtain ⟨t1, p1, s1⟩ := h1.ex
  obtain ⟨t2, p2, s2⟩ := h2.ex
  refine ⟨_, pgs_cons p1 p2 hs, fun m S H env σ vs us Q s er r h => ?_⟩
  cases r with
  | nil => exact h.elim
  | cons r0 rr =>
    rename_i v u vs us
    refine ⟨_, _, rfl, s1 m S H env σ v u _ s er r0 ?_⟩
    have h' : Post N X.K (EnR N X.K) m H Q (W σ) ((gm v env S).bind fun e S1 => gms vs e S1) := h
    cases q : gm v env S with
    | ok e2 S2 =>
      rw [q] at h'
      exact fun m' H' σ' e' s' r' => s2 m' S2 H' e2 σ' vs us Q s' r' (rr.mono e') (by rw [hW σ' σ]; exact Post.mono e' h')
    | err c' x' S2 => rw [q] at h'; exact h'
    | bad => rw [q] at h'; exact h'
/-- a, b, .. = a tuple or a list -/
def gmTup (n : Nat) (g : GMs) : GM := fun v env S => match v with
  | .tup xs => if xs.length = n then g xs env S else .bad
  | .ktp xs => if xs.length = n then g xs env S else .bad
  | .ref i => match S[i]? with
    | some (.lst xs) => if xs.length = n then g xs env S else .bad
    | _ => .bad
  | _ => .bad
theorem pg_or {tg : Expr} {t u : TG} (h1 : PG X tg t) (h2 : PG X tg u) : PG X tg (fun v σ H Q => t v σ H Q ∨ u v σ H Q) := ⟨fun pins s σ H v w Q I r h => by
  rcases h with h | h
  · exact h1.run pins s σ H v w Q I r h
  · exact h2.run pins s σ H v w Q I r h⟩
theorem sg_tup {k n : Nat} {gms : GMs} (hc : X.calm = true) (h : SGs N X W es gms) (hn : (assignEach es X.env).length = n := by rfl) (hst : (assignEach es X.env).findIdx? (·.1) = none := by rfl) : SG N X W (.Tuple es k pos) (gmTup n gms) := by
  obtain ⟨t1, p1, s1⟩ := h.ex
  refine ⟨_, pg_or (pg_tup hc p1 hn hst) (pg_unl hc p1 hn hst), fun m S H env σ v u Q s er r h => ?_⟩
  unfold gmTup at h
  split at h
  · split at h
    · rename_i hl
      obtain ⟨a, ys, rfl, h1, h2⟩ := r.asT rfl
      exact .inl ⟨a, ys, rfl, h1, by rw [← h2.len]; exact hl, s1 m S H env σ _ ys Q s er h2 h⟩
    · exact h.elim
  · split at h
    · rename_i hl
      obtain ⟨a, ys, rfl, h1, h2⟩ := r.asT rfl
      exact .inl ⟨a, ys, rfl, h1, by rw [← h2.len]; exact hl, s1 m S H env σ _ ys Q s er h2 h⟩
    · exact h.elim
  · split at h
    · rename_i hS
      split at h
      · rename_i hl
        obtain ⟨a, rfl, hm⟩ := r.ref'
        obtain ⟨ys, h1, h2⟩ := s.lst hm hS
        exact .inr ⟨a, ys, rfl, sq_of h1, by rw [← h2.len]; exact hl, s1 m S H env σ _ ys Q s er h2 h⟩
      · exact h.elim
    · exact h.elim
  · exact h.elim
/-- x, *rest = a tuple -/
def gmStar1 (g1 g2 : GM) : GM := fun v env S => match asTup v with
  | some (x :: xs) => (g1 x env (S ++ [.lst xs])).bind fun e S1 => g2 (.ref S.length) e S1
  | _ => .bad
theorem sg_star1 {k : Nat} {e1 e2 : Expr} {sp : Pos} {g1 g2 : GM} (hc : X.calm = true) (h1 : SG N X W e1 g1) (h2 : SG N X W e2 g2) (hW : ∀ σ σ', W σ = W σ' := by exact fun _ _ => rfl)
    (hlen : (assignEach [e1, .Starred e2 sp] X.env).length = 2 := by rfl) (hstar : (assignEach [e1, .Starred e2 sp] X.env).findIdx? (·.1) = some 1 := by rfl) (hs : (assignEach [.Starred e2 sp] X.env).map (·.2) = [assign e2 X.env] := by rfl)
    (hs2 : (assignEach [e1, .Starred e2 sp] X.env).map (·.2) = assign e1 X.env :: (assignEach [.Starred e2 sp] X.env).map (·.2) := by rfl) : SG N X W (.Tuple [e1, .Starred e2 sp] k pos) (gmStar1 g1 g2) := by
  obtain ⟨t1, p1, s1⟩ := h1.ex
  obtain ⟨t2, p2, s2⟩ := h2.ex
  refine ⟨_, pg_star (n := 2) (i := 1) hc (pgs_cons p1 (pgs_star p2 hs) hs2) hlen hstar, fun m S H env σ v u Q s er r h => ?_⟩
  unfold gmStar1 at h
  split at h
  · rename_i x xs hv
    obtain ⟨a, ys, rfl, ht, rs⟩ := r.asT hv
    obtain ⟨y, zs, rfl, rx, rxs⟩ := rs.cons'
    refine ⟨a, y :: zs, rfl, ht, by rw [List.length_cons]; omega, by decide, fun q hq => ?_⟩
    have e0 : (y :: zs).length + 1 - 2 = zs.length := by rw [List.length_cons]; omega
    have e1' : ((y :: zs).drop 1).take ((y :: zs).length + 1 - 2) = zs := by rw [e0]; exact List.take_length
    have e2' : (y :: zs).take 1 ++ [V.ref q] ++ ((y :: zs).drop 1).drop ((y :: zs).length + 1 - 2) = [y, .ref q] := by
      rw [e0]
      show [y] ++ [V.ref q] ++ zs.drop zs.length = _
      rw [List.drop_length]
      rfl
    rw [e1', e2']
    have ex : Ext X.K m H (m ++ [q]) (upd H q (.lst zs)) := Ext.app (Same.new hq)
    have sr := s.new (Same.new hq) hq upd_same (.lst rxs)
    have h' := Post.mono ex h
    refine ⟨_, _, rfl, s1 _ _ _ env σ x y _ sr (er.mono ex) (rx.mono ex) ?_⟩
    cases qq : g1 x env (S ++ [.lst xs]) with
    | ok e3 S3 =>
      rw [qq] at h'
      refine fun m' H' σ' e' s' r' => ⟨_, _, rfl, s2 m' S3 H' e3 σ' (.ref S.length) (.ref q) _ s' r' ((s.ref_new (p := q) (H' := upd H q (.lst zs))).mono e') ?_⟩
      rw [hW σ' σ]
      have h3 : Post N X.K (EnR N X.K) m' H' Q (W σ) (g2 (.ref S.length) e3 S3) := Post.mono e' h'
      cases q3 : g2 (.ref S.length) e3 S3 with
      | ok e4 S4 => rw [q3] at h3; exact fun m'' H'' σ'' e'' s'' r'' => ⟨rfl, h3 m'' H'' σ'' e'' s'' r''⟩
      | err c4 x4 S4 => rw [q3] at h3; exact h3
      | bad => rw [q3] at h3; exact h3
    | err c' x' S2 => rw [qq] at h'; exact h'
    | bad => rw [qq] at h'; exact h'
  · exact h.elim
/-- o[i] = v, by values -/
def SetS (N : Nms) (K : PySem.W.Frag) (t : TSet) (g : Vl → Vl → Vl → Sto → Out Unit) : Prop := ∀ m S H o i v ou iu vu (Q : Hp → Prop) E, SR N K m S H → Vr N K m H o ou → Vr N K m H i iu → Vr N K m H v vu → Post N K (fun _ _ (_ : Unit) (_ : Unit) => True) m H (fun _ H' => Q H') E (g o i v S) → t ou iu vu H Q
structure SetM (N : Nms) (X : Cx) (g : Vl → Vl → Vl → Sto → Out Unit) : Prop where
  ex : ∃ t, PSet X t ∧ SetS N X.K t g
def gmSub (o i : XE') (g : Vl → Vl → Vl → Sto → Out Unit) : GM := fun v env S => (o env S).bind fun ov S1 => (i env S1).bind fun iv S2 => (g ov iv v S2).bind fun _ S3 => .ok env S3
theorem sg_sub {o i : Expr} {fo fi : XE'} {gs : Vl → Vl → Vl → Sto → Out Unit} (hs : SetM N X gs) (ho : SE N X W o fo) (hi : SE N X W i fi)
    (ha : ∀ v, assign (.Subscript o i pos) X.env v = (do
      let ov ← holding [v] (eval o X.env)
      let iv ← holding [v, ov] (eval i X.env)
      standAt pos
      holding [v, ov, iv] (setItem ov iv v)
      release [v, ov, iv] []) := by intro _; rfl) : SG N X W (.Subscript o i pos) (gmSub fo fi gs) := by
  obtain ⟨t0, p0, s0⟩ := hs.ex
  obtain ⟨t1, p1, s1⟩ := ho.ex
  obtain ⟨t2, p2, s2⟩ := hi.ex
  refine ⟨_, pg_sub p1 p2 p0 ha, fun m S H env σ v u Q s er r h => ?_⟩
  refine s1.step s er h fun ov S1 m1 H1 ou e1 sr1 r1 er1 h1 => ?_
  refine s2.step sr1 er1 h1 fun iv S2 m2 H2 iu e2 sr2 r2 er2 h2 => ?_
  refine s0 m2 S2 H2 ov iv v ou iu u _ (W σ) sr2 (r1.mono e2) r2 (r.mono (e1.trans e2)) ?_
  cases q : gs ov iv v S2 with
  | ok _ S3 =>
    rw [q] at h2
    exact fun m' H' _ e' s' _ => h2.to e' s' (er2.mono e')
  | err c x S3 => rw [q] at h2; exact h2
  | bad => rw [q] at h2; exact h2
/-- o.f = v -/
def putL (k : Nat) (v : Vl) : List (Nat × Vl) → List (Nat × Vl)
  | [] => [(k, v)]
  | (j, x) :: r => if j = k then (j, v) :: r else (j, x) :: putL k v r
theorem FR.put {K : PySem.W.Frag} {m : List Addr} {H : Hp} {k : Nat} {v : Vl} {u : V} (rv : Vr N K m H v u) : ∀ {fs : List (Nat × Vl)} {gs : List (Str × V)}, FR N K m H fs gs → FR N K m H (putL k v fs) (putF (N.f k) u gs)
  | _, _, .nil => .cons rv .nil
  | (j, x) :: fs, _, .cons (us := us) h r => by
    show FR N K m H (if j = k then (j, v) :: fs else (j, x) :: putL k v fs) (if N.f j = N.f k then (N.f j, u) :: us else (N.f j, _) :: putF (N.f k) u us)
    by_cases q : j = k
    · rw [if_pos q, if_pos (by rw [q])]; exact .cons rv r
    · rw [if_neg q, if_neg (fun z => q (N.fi _ _ z))]; exact .cons h (FR.put rv r)
def gmFld (k : Nat) (cs : List Nat) (o : XE') : GM := fun v env S => (o env S).bind fun ov S1 => match ov with
  | .ref i => match S1[i]? with
    | some (.ins c fs) => if cs.contains c = true ∧ fs.length < 1000 then .ok env (S1.set i (.ins c (putL k v fs))) else .bad
    | _ => .bad
  | _ => .bad
def gFld (K : PySem.W.Frag) (ta : TE) (f : Str) : TG := fun v σ H Q => ta σ H fun x H2 => ∃ a C dx fs, x = .ref a ∧ H2 a = some (.ins C dx fs) ∧ Cls K C ∧ NoAttr K C f ∧ fs.length < 1000 ∧ Q σ (upd H2 a (.ins C dx (putF f v fs)))
theorem pg_fld {o : Expr} {f : Str} {ta : TE} (ha : PE X o ta) : PG X (.Attribute o f pos) (gFld X.K ta f) := by
  refine ⟨fun pins s σ H v u Q I r h => ?_⟩
  rw [assign_Attribute]
  refine wpAny_bind (wpAny_holding (thn (ha.run pins s σ H _ I h) fun ov s1 ⟨x, H1, I1, rx, a, C, dx, fs, ex, ea, c, n, l, q⟩ => ?_))
  subst ex
  obtain rfl : ov = Value.ref a := rx
  refine wpAny_bind (wpAny_standAt (wpAny_bind (wpAny_holding (setattr_ok I1 ea c n l r fun s2 I2 => ?_))))
  exact wpAny_release ⟨σ, _, I2, q⟩
theorem sg_fld (k : Nat) {cs : List Nat} {o : Expr} (hF : FOk N X.K (N.f k) cs) (he : SE N X W o fa) : SG N X W (.Attribute o (N.f k) pos) (gmFld k cs fa) := by
  obtain ⟨to, p0, s0⟩ := he.ex
  refine ⟨_, pg_fld p0, fun m S H env σ v u Q s er r h => s0.step s er h fun ov S1 m1 H1 u1 e1 sr1 r1 er1 h1 => ?_⟩
  split at h1
  · split at h1
    · rename_i c fs hS
      split at h1
      · rename_i hc
        obtain ⟨a, rfl, hma⟩ := r1.ref'
        obtain ⟨dx, gs, hH, hf⟩ := sr1.ins hma hS
        obtain ⟨c1, c2⟩ := hF.at_ hc.1
        have e2 : Ext X.K m1 H1 m1 (upd H1 a (.ins (He.ga X.K (N.g c)) dx (putF (N.f k) u gs))) := Ext.upd hH trivial
        exact ⟨a, _, dx, gs, rfl, hH, c1, c2, by rw [← hf.len]; exact hc.2, h1.to e2 (sr1.set hma hH trivial (.ins (hf.put (r.mono e1)))) (er1.mono e2)⟩
      · exact h1.elim
    · exact h1.elim
  · exact h1.elim
/-- o.f = e -/
theorem ss_fld (k : Nat) {cs : List Nat} {o : Expr} (hF : FOk N X.K (N.f k) cs) (ho : SE N X W o fb) (he : SE N X W e fa) (hs : swapsWith e (some (.Attribute o (N.f k) pos')) pos.line X.env = pure false := by rfl) :
    SS N X W (.Assign [.Attribute o (N.f k) pos'] e pos) (zAsg fa (gmFld k cs fb)) := by
  obtain ⟨t1, p1, s1⟩ := he.ex
  obtain ⟨t2, p2, s2⟩ := ho.ex
  obtain ⟨_, _, s3⟩ := (sg_fld (pos := pos') k hF ho).ex
  refine ⟨fun D σ H => t1 σ H fun x H1 => gFld X.K t2 (N.f k) x σ H1 D.nx, ⟨fun pins s σ H D I h => (ps_fld p2 p1 hs).run pins s σ H D I h⟩, fun m S H env σ D s er h => s1.stepS s er h fun v S1 m1 H1 u e1 sr1 r1 er1 h1 => ?_⟩
  have h1' : PostS N X.K m1 H1 D W ((fb env S1).bindS env fun ov S2 => ((match ov with
    | .ref i => match S2[i]? with
      | some (.ins c fs) => if cs.contains c = true ∧ fs.length < 1000 then .ok env (S2.set i (.ins c (putL k v fs))) else .bad
      | _ => .bad
    | _ => .bad : Out En)).bindS env fun e S2 => .ok (.nx e) S2) := by
    have h1'' : PostS N X.K m1 H1 D W ((gmFld k cs fb v env S1).bindS env fun e S2 => .ok (.nx e) S2) := h1
    unfold gmFld at h1''
    cases q : fb env S1 with
    | ok ov S2 => rw [q] at h1''; exact h1''
    | err c x S2 => rw [q] at h1''; exact h1''
    | bad => rw [q] at h1''; exact h1''
  refine s2.stepS sr1 er1 h1' fun ov S2 m2 H2 u2 e2 sr2 r2 er2 h2 => ?_
  split at h2
  · split at h2
    · rename_i c fs hS
      split at h2
      · rename_i hc
        obtain ⟨a, rfl, hma⟩ := r2.ref'
        obtain ⟨dx, gs, hH, hf⟩ := sr2.ins hma hS
        obtain ⟨c1, c2⟩ := hF.at_ hc.1
        have e3 : Ext X.K m2 H2 m2 (upd H2 a (.ins (He.ga X.K (N.g c)) dx (putF (N.f k) u gs))) := Ext.upd hH trivial
        exact ⟨a, _, dx, gs, rfl, hH, c1, c2, by rw [← hf.len]; exact hc.2, h2 m2 _ σ e3 (sr2.set hma hH trivial (.ins (hf.put (r1.mono e2)))) (er2.mono e3)⟩
      · exact h2.elim
    · exact h2.elim
  · exact h2.elim
end
end Nt

namespace Nt
open PySem PySem.Spec PyProof.Rows L2 Evl
/-! ### loops -/
def whileZ (t : XT) (f : ZS) : Nat → En → Sto → Out Fl
  | 0, _, _ => .bad
  | n + 1, env, S => (t env S).bindS env fun b S1 => if b = true then (match f env S1 with
      | .ok (.nx e) S2 => whileZ t f n e S2
      | .ok (.ct e) S2 => whileZ t f n e S2
      | .ok (.bk e) S2 => .ok (.nx e) S2
      | o => o) else .ok (.nx env) S1
def zWhile (φ : Nat) (t : XT) (f : ZS) : ZS := fun env S => whileZ t f φ env S
inductive Yd where
  | yld (x : Vl) (S : Sto) | stop | bad
structure Itm where
  fuel : Nat
  nxt : Nat → Sto → Yd
def YdR (N : Nms) (K : PySem.W.Frag) (m : List Addr) (H : Hp) (J : It) (i : Nat) : Yd → Prop
  | .yld x S' => J.go i H ∧ ∀ u H', J.yld i H u H' → ∃ m', Ext K m H m' H' ∧ SR N K m' S' H' ∧ Vr N K m' H' x u
  | .stop => J.stop i H
  | .bad => True
def ItR (N : Nms) (K : PySem.W.Frag) (m0 : List Addr) (H0 : Hp) (I : Itm) (J : It) : Prop := ∀ m S H i, Ext K m0 H0 m H → SR N K m S H → YdR N K m H J i (I.nxt i S)
theorem ItR.mono {N : Nms} {K : PySem.W.Frag} {m m1 : List Addr} {H H1 : Hp} {I : Itm} {J : It} (e : Ext K m H m1 H1) (h : ItR N K m H I J) : ItR N K m1 H1 I J := fun m' S H' i e' s => h m' S H' i (e.trans e') s
structure SI (N : Nms) (X : Cx) (W : L2.St → XK) (tg iter : Expr) (f : En → Sto → Out Itm) : Prop where
  ex : ∃ wi, PI X tg iter wi ∧ Sim N X.K (ItR N X.K) W wi f
def forZ (I : Itm) (g : GM) (f : ZS) : Nat → Nat → En → Sto → Out Fl
  | n, i, env, S => match I.nxt i S with
    | .stop => .ok (.nx env) S
    | .bad => .bad
    | .yld x S1 => match n with
      | 0 => .bad
      | n + 1 => (g x env S1).bindS env fun e1 S2 => match f e1 S2 with
        | .ok (.nx e) S3 => forZ I g f n (i + 1) e S3
        | .ok (.ct e) S3 => forZ I g f n (i + 1) e S3
        | .ok (.bk e) S3 => .ok (.nx e) S3
        | o => o
def zFor (it : En → Sto → Out Itm) (g : GM) (f : ZS) : ZS := fun env S => (it env S).bindS env fun I S1 => forZ I g f I.fuel 0 env S1
section
variable {N : Nms} {X : Cx} {W : L2.St → XK} {e a b c tg iter : Expr} {st : Stmt} {rest body orelse : List Stmt} {es : List Expr} {fa fb : XE'} {f g : ZS} {ft : XT} {pos p pos' : Pos} {x : Str} {gm : GM} {fi : En → Sto → Out Itm}
/-- the body of a loop: what it reaches -/
theorem PostS.turn {K : PySem.W.Frag} {m : List Addr} {H : Hp} {D : Ends} {Nx : L2.St → Hp → Prop} {o : Out Fl} {k : En → Sto → Out Fl} (h : PostS N K m H D W (match o with
      | .ok (.nx e) S2 => k e S2
      | .ok (.ct e) S2 => k e S2
      | .ok (.bk e) S2 => .ok (.nx e) S2
      | o => o)) (hn : ∀ e S m' H' σ', Ext K m H m' H' → SR N K m' S H' → EnR N K m' H' e σ' → PostS N K m' H' D W (k e S) → Nx σ' H') : PostS N K m H { D with nx := Nx, ct := Nx, bk := D.nx } W o := by
  cases o with
  | ok v S =>
    cases v with
    | nx e => exact fun m' H' σ' e' s' r' => hn e S m' H' σ' e' s' r' (PostS.mono e' h)
    | ct e => exact fun m' H' σ' e' s' r' => hn e S m' H' σ' e' s' r' (PostS.mono e' h)
    | bk e => exact h
    | rt v => exact h
    | er c x e => exact h
  | err c x S => exact h
  | bad => exact h
theorem ss_while (φ : Nat) (hp : PassesOwn (model X.prog X.w) X.A X.env X.xe) (hc : ST N X W c ft) (hb : SSs N X W body f) : SS N X W (.While c body [] pos) (zWhile φ ft f) := by
  obtain ⟨t0, p0, s0⟩ := hc.ex
  obtain ⟨t1, p1, s1⟩ := hb.ex
  refine ⟨_, ps_while hp p0 p1, fun m S H env σ D s er h => ?_⟩
  refine ⟨fun n σ H => ∃ m S env, SR N X.K m S H ∧ EnR N X.K m H env σ ∧ PostS N X.K m H D W (whileZ ft f n env S), ⟨φ, m, S, env, s, er, h⟩, ?_⟩
  rintro n σ H ⟨m, S, env, s, er, h⟩
  cases n with
  | zero => exact h.elim
  | succ n =>
    refine s0.stepS s er h fun v S1 m1 H1 u e1 sr1 r1 er1 h1 => ?_
    cases r1
    cases v with
    | true =>
      refine (if_pos rfl).mpr ⟨fun σ' H' => ∃ m S env, SR N X.K m S H' ∧ EnR N X.K m H' env σ' ∧ PostS N X.K m H' D W (whileZ ft f n env S), fun σ' H' q => ⟨n, Nat.lt_succ_self n, q⟩, ?_⟩
      exact s1 m1 S1 H1 env σ _ sr1 er1 (PostS.turn (k := whileZ ft f n) h1 fun e S2 m' H' σ' e' s' r' h2 => ⟨m', S2, e, s', r', h2⟩)
    | false => exact (if_neg Bool.false_ne_true).mpr (h1 m1 H1 σ Ext.refl sr1 er1)
theorem forZ_eq {I : Itm} {n i : Nat} {env : En} {S : Sto} : forZ I gm f n i env S = match I.nxt i S with
    | .stop => .ok (.nx env) S
    | .bad => .bad
    | .yld x S1 => match n with
      | 0 => .bad
      | n + 1 => (gm x env S1).bindS env fun e1 S2 => match f e1 S2 with
        | .ok (.nx e) S3 => forZ I gm f n (i + 1) e S3
        | .ok (.ct e) S3 => forZ I gm f n (i + 1) e S3
        | .ok (.bk e) S3 => .ok (.nx e) S3
        | o => o := by
  cases n <;> rw [forZ]
theorem ss_for (hp : PassesOwn (model X.prog X.w) X.A X.env X.xe) (hc : X.calm = true) (hi : SI N X W tg iter fi) (hg : SG N X W tg gm) (hb : SSs N X W body f) (hs : ∀ v, foldedSetIterable iter X.env v = pure v := by intro _; rfl) : SS N X W (.For tg iter body [] pos) (zFor fi gm f) := by
  obtain ⟨t0, p0, s0⟩ := hi.ex
  obtain ⟨t1, p1, s1⟩ := hg.ex
  obtain ⟨t2, p2, s2⟩ := hb.ex
  refine ⟨_, ps_for hp hc p0 p1 p2 hs, fun m S H env σ D s er h => s0.stepS s er h fun I S1 m1 H1 J e1 sr1 r1 er1 h1 => ?_⟩
  refine ⟨fun i n σ H => ∃ m S env, Ext X.K m1 H1 m H ∧ SR N X.K m S H ∧ EnR N X.K m H env σ ∧ PostS N X.K m H D W (forZ I gm f n i env S), ⟨I.fuel, m1, S1, env, Ext.refl, sr1, er1, h1⟩, ?_⟩
  rintro i n σ H ⟨m, S, env, e, s, er, h⟩
  rw [forZ_eq] at h
  have hJ := r1 m S H i e s
  cases q : I.nxt i S with
  | stop =>
    rw [q] at h hJ
    exact .inl ⟨hJ, h m H σ Ext.refl s er⟩
  | bad => rw [q] at h; exact h.elim
  | yld x S2 =>
    rw [q] at h hJ
    cases n with
    | zero => exact h.elim
    | succ n =>
      refine .inr ⟨hJ.1, fun σ' H' => ∃ m S env, Ext X.K m1 H1 m H' ∧ SR N X.K m S H' ∧ EnR N X.K m H' env σ' ∧ PostS N X.K m H' D W (forZ I gm f n (i + 1) env S), fun σ' H' z => ⟨n, Nat.lt_succ_self n, z⟩, fun u H' hy => ?_⟩
      obtain ⟨m', e', s', r'⟩ := hJ.2 u H' hy
      refine s1 m' S2 H' env σ x u _ s' (er.mono e') r' ?_
      have h' : PostS N X.K m' H' D W ((gm x env S2).bindS env fun e1 S2 => match f e1 S2 with
        | .ok (.nx e) S3 => forZ I gm f n (i + 1) e S3
        | .ok (.ct e) S3 => forZ I gm f n (i + 1) e S3
        | .ok (.bk e) S3 => .ok (.nx e) S3
        | o => o) := PostS.mono e' h
      cases q2 : gm x env S2 with
      | ok e2 S3 =>
        rw [q2] at h'
        refine fun m2 H2 σ2 e3 s3 r3 => ?_
        refine s2 m2 S3 H2 e2 σ2 _ s3 r3 (PostS.turn (k := forZ I gm f n (i + 1)) (PostS.mono e3 h') fun e4 S4 m4 H4 σ4 e5 s5 r5 h5 => ⟨m4, S4, e4, ((e.trans e').trans e3).trans e5, s5, r5, h5⟩)
      | err c' x' S3 => rw [q2] at h'; exact fun m2 H2 d e3 s3 x3 => h' m2 H2 d σ e3 s3 ((er.mono e').mono e3) x3
      | bad => rw [q2] at h'; exact h'.elim
/-! ### op= and pairs -/
def zAug (i : Nat) (a : XE') (g : Vl → Vl → Sto → Out Vl) : ZS := fun env S => match env[i]? with
  | some (some x) => (a env S).bindS env fun y S1 => (g x y S1).bindS env fun z S2 => .ok (.nx (env.set i (some z))) S2
  | _ => .bad
theorem ss_aug {i : Nat} {op : Operator} {gv : Vl → Vl → Sto → Out Vl} (ho : OpM N X (inplaceOp op) gv) (hN : X.N.Nodup) (hi : X.N[i]? = some x) (hx : Loc X.env.scope x) (he : SE N X W e fa) (hf : X.fn x = true ∨ X.env.scope.names.lookup x = some .local := by first | exact .inl rfl | exact .inr rfl | assumption) (hfr : N.fr i := by first | exact Nms.fr0 rfl | exact Nms.frh rfl) :
    SS N X W (.AugAssign (.Name x pos') op e pos) (zAug i fa gv) := by
  obtain ⟨r, h1, h2⟩ := ho.ex
  obtain ⟨t1, p1, s1⟩ := he.ex
  refine ⟨_, ps_aug hN hi hx p1 h1 hf, fun m S H env σ D s er h => ?_⟩
  unfold zAug at h
  split at h
  · rename_i v hv
    obtain ⟨u, hu, ru⟩ := er.at_ i v hv
    refine ⟨u, hu, s1.stepS s er h fun y S1 m1 H1 uy e1 sr1 r1 er1 h1 => ?_⟩
    refine h2 m1 S1 H1 v y u uy _ (W σ) sr1 (ru.mono e1) r1 ?_
    cases q : gv v y S1 with
    | ok z S2 => rw [q] at h1; exact fun m' H' uz e' s' rz => h1 m' H' _ e' s' ((er1.mono e').set hfr rz)
    | err c' x' S2 => rw [q] at h1; exact fun m' H' d e' s' x' => h1 m' H' d σ e' s' (er1.mono e') x'
    | bad => rw [q] at h1; exact h1.elim
  · exact h.elim
def zFldAug (k : Nat) (cs : List Nat) (o a : XE') (g : Vl → Vl → Sto → Out Vl) : ZS := fun env S => (o env S).bindS env fun ov S1 => match ov with
  | .ref i => match S1[i]? with
    | some (.ins c fs) => if cs.contains c = true then match fs.lookup k with
      | some x => (a env S1).bindS env fun y S2 => (g x y S2).bindS env fun z S3 => match S3[i]? with
        | some (.ins c' fs') => if c' = c ∧ fs'.length < 1000 then .ok (.nx env) (S3.set i (.ins c (putL k z fs'))) else .bad
        | _ => .bad
      | none => .bad
      else .bad
    | _ => .bad
  | _ => .bad
theorem ss_fldaug (k : Nat) {cs : List Nat} {o : Expr} {fo : XE'} {op : Operator} {gv : Vl → Vl → Sto → Out Vl} (hop : OpM N X (inplaceOp op) gv) (hF : FOk N X.K (N.f k) cs) (ho : SE N X W o fo) (he : SE N X W e fa) : SS N X W (.AugAssign (.Attribute o (N.f k) pos') op e pos) (zFldAug k cs fo fa gv) := by
  obtain ⟨r, h1, h2⟩ := hop.ex
  obtain ⟨t0, p0, s0⟩ := ho.ex
  obtain ⟨t1, p1, s1⟩ := he.ex
  refine ⟨_, ps_fldaug p0 p1 (fun pins s σ H x y u v Q I rx ry q => h1 pins s σ H x y u v Q I rx ry q), fun m S H env σ D s er h => s0.stepS s er h fun ov S1 m1 H1 ou e1 sr1 r1 er1 h1 => ?_⟩
  split at h1
  · rename_i i
    split at h1
    · rename_i c fs hS
      split at h1
      · rename_i hc
        split at h1
        · rename_i v hv
          obtain ⟨a, rfl, hma⟩ := r1.ref'
          obtain ⟨dx, gs, hH, hf⟩ := sr1.ins hma hS
          obtain ⟨u', hl, hr'⟩ := hf.look hv
          obtain ⟨c1, c2⟩ := hF.at_ hc
          refine ⟨a, _, dx, gs, u', rfl, hH, c1, c2, hl, s1.stepS sr1 er1 h1 fun y S2 m2 H2 uy e2 sr2 r2 er2 h3 => ?_⟩
          refine h2 m2 S2 H2 v y u' uy _ (W σ) sr2 (hr'.mono e2) r2 ?_
          cases q : gv v y S2 with
          | ok z S3 =>
            rw [q] at h3
            intro m' H' uz e' s' rz
            dsimp only [Out.bindS_ok] at h3
            split at h3
            · rename_i c' fs' hS3
              split at h3
              · rename_i hc'
                obtain ⟨rfl, hlen⟩ := hc'
                have hma' := e'.pre _ _ (e2.pre _ _ hma)
                obtain ⟨dx', gs', hH', hf'⟩ := s'.ins hma' hS3
                have e3 : Ext X.K m' H' m' (upd H' a (.ins (He.ga X.K (N.g c')) dx' (putF (N.f k) uz gs'))) := Ext.upd hH' trivial
                exact ⟨dx', gs', hH', by rw [← hf'.len]; exact hlen, h3 m' _ σ (e'.trans e3) (s'.set hma' hH' trivial (.ins (hf'.put rz))) ((er2.mono e').mono e3)⟩
              · exact h3.elim
            · exact h3.elim
          | err c' x' S3 => rw [q] at h3; exact fun m' H' d e' s' x' => h3 m' H' d σ e' s' (er2.mono e') x'
          | bad => rw [q] at h3; exact h3.elim
        · exact h1.elim
      · exact h1.elim
    · exact h1.elim
  · exact h1.elim
/-- a, b = x, y (two names) -/
def zPar (i j : Nat) (a b : XE') : ZS := fun env S => (a env S).bindS env fun v S1 => (b env S1).bindS env fun w S2 => .ok (.nx ((env.set i (some v)).set j (some w))) S2
theorem ss_par {i j : Nat} {x y : Str} {px py pt : Pos} {kt k2 pt2} (hc : X.calm = true) (hN : X.N.Nodup) (hi : X.N[i]? = some x) (hj : X.N[j]? = some y) (hij : i ≠ j)
    (hx : X.env.scope.names.lookup x = some .local) (hy : X.env.scope.names.lookup y = some .local) (ha : SE N X W a fa) (hb : SE N X W b fb)
    (hw : swappedStores [.Tuple [.Name x px, .Name y py] kt pt] (.Tuple [a, b] k2 pt2) X.env = pure (some [x, y]))
    (hs : swapsWithSole [.Tuple [.Name x px, .Name y py] kt pt] (.Tuple [a, b] k2 pt2) pos.line X.env = pure false := by rfl)
    (s1 : starEach [a, b] X.env = (false, eval a X.env) :: starEach [b] X.env := by rfl) (s2 : starEach [b] X.env = (false, eval b X.env) :: starEach [] X.env := by rfl) (hfi : N.fr i := by first | exact Nms.fr0 rfl | exact Nms.frh rfl) (hfj : N.fr j := by first | exact Nms.fr0 rfl | exact Nms.frh rfl) :
    SS N X W (.Assign [.Tuple [.Name x px, .Name y py] kt pt] (.Tuple [a, b] k2 pt2) pos) (zPar i j fa fb) := by
  obtain ⟨t1, p1, s1'⟩ := ha.ex
  obtain ⟨t2, p2, s2'⟩ := hb.ex
  refine ⟨_, ps_par hc hN hi hj hij hx hy (pa_cons p1 (pa_cons p2 pa_nil s2) s1) hw hs, fun m S H env σ D s er h => s1'.stepS s er h fun v S1 m1 H1 u e1 sr1 r1 er1 h1 => ?_⟩
  refine s2'.stepS sr1 er1 h1 fun w S2 m2 H2 u2 e2 sr2 r2 er2 h2 => ?_
  exact ⟨_, _, rfl, h2 m2 H2 _ Ext.refl sr2 ((er2.set hfi (r1.mono e2)).set hfj r2)⟩
/-- several targets: t1 = t2 = t3 = e -/
def zAsg3 (a : XE') (g1 g2 g3 : GM) : ZS := fun env S => (a env S).bindS env fun v S1 => (g1 v env S1).bindS env fun e1 S2 => (g2 v e1 S2).bindS e1 fun e2 S3 => (g3 v e2 S3).bindS e2 fun e3 S4 => .ok (.nx e3) S4
theorem ss_asg3 {t1 t2 t3 : Expr} {g1 g2 g3 : GM} (he : SE N X W e fa) (h1 : SG N X W t1 g1) (h2 : SG N X W t2 g2) (h3 : SG N X W t3 g3)
    (ha : (assignEach [t1, t2, t3] X.env).map (·.2) = [assign t1 X.env, assign t2 X.env, assign t3 X.env] := by rfl) (hw : swappedStores [t1, t2, t3] e X.env = pure none := by rfl) : SS N X W (.Assign [t1, t2, t3] e pos) (zAsg3 fa g1 g2 g3) := by
  obtain ⟨u0, p0, s0⟩ := he.ex
  obtain ⟨u1, p1, s1⟩ := h1.ex
  obtain ⟨u2, p2, s2⟩ := h2.ex
  obtain ⟨u3, p3, s3⟩ := h3.ex
  refine ⟨_, ps_asg3 p0 p1 p2 p3 ha hw, fun m S H env σ D s er h => s0.stepS s er h fun v S1 m1 H1 u e1 sr1 r1 er1 h1 => ?_⟩
  refine s1 m1 S1 H1 env σ v u _ sr1 er1 r1 ?_
  cases q1 : g1 v env S1 with
  | ok en1 S2 =>
    rw [q1] at h1
    refine fun m2 H2 σ2 e2 sr2 er2 => s2 m2 S2 H2 en1 σ2 v u _ sr2 er2 (r1.mono e2) ?_
    have h2 : PostS N X.K m2 H2 D W ((g2 v en1 S2).bindS en1 fun e2 S3 => (g3 v e2 S3).bindS e2 fun e3 S4 => .ok (.nx e3) S4) := PostS.mono e2 h1
    cases q2 : g2 v en1 S2 with
    | ok en2 S3 =>
      rw [q2] at h2
      refine fun m3 H3 σ3 e3 sr3 er3 => s3 m3 S3 H3 en2 σ3 v u _ sr3 er3 ((r1.mono e2).mono e3) ?_
      have h3 : PostS N X.K m3 H3 D W ((g3 v en2 S3).bindS en2 fun e3 S4 => .ok (.nx e3) S4) := PostS.mono e3 h2
      cases q3 : g3 v en2 S3 with
      | ok en3 S4 => rw [q3] at h3; exact h3
      | err c' x' S4 => rw [q3] at h3; exact fun m' H' d e' s' x' => h3 m' H' d σ3 e' s' (er3.mono e') x'
      | bad => rw [q3] at h3; exact h3.elim
    | err c' x' S4 => rw [q2] at h2; exact fun m' H' d e' s' x' => h2 m' H' d σ2 e' s' (er2.mono e') x'
    | bad => rw [q2] at h2; exact h2.elim
  | err c' x' S4 => rw [q1] at h1; exact fun m' H' d e' s' x' => h1 m' H' d σ e' s' (er1.mono e') x'
  | bad => rw [q1] at h1; exact h1.elim
end
/-! ### raise -/
def zRaise (c : Nat) : ZS := fun env S => .ok (.er c none env) S
theorem ss_raise0 {N : Nms} {X : Cx} {W : L2.St → XK} {x : Str} {p pos pos' : Pos} {B newId initId : String} {bmB : List Value} (c : Nat) (hc : X.calm = true) (tk : Takes X (fun cls d σ H => W σ cls d H)) (F : ExcBaseFacts B newId initId bmB) (q : ExcD X.K (He.ga X.K (N.g c)) bmB newId) (gC : X.mg x = some (.ref (He.ga X.K (N.g c)))) (hg : Gl X x)
    (hdb : (x == ("__debug__" : Str)) = false := by decide) : SS N X W (.Raise (some (.Call (.Name x p) [] [] pos)) none pos') (zRaise c) :=
  ⟨_, ps_raise hc tk (pmk_own0 F q.q gC q.k (raises_own q.s q.t) hg hdb), fun m S H env σ D s er h => h m H none σ Ext.refl s er trivial⟩
/-! ### a def by its body -/
/-- nothing is raised out -/
def runB0 (n : Nat) (b : ZS) : List Vl → Sto → Out Vl := fun args S => match b (enter n args) S with
  | .ok (.nx _) S' => .ok .non S'
  | .ok (.rt v) S' => .ok v S'
  | _ => .bad
def runBX (n : Nat) (b : ZS) : List Vl → Sto → Out Vl := fun args S => match b (enter n args) S with
  | .ok (.nx _) S' => .ok .non S'
  | .ok (.rt v) S' => .ok v S'
  | .ok (.er c x _) S' => .err c x S'
  | _ => .bad
section
variable {N : Nms} {P : Program} {w : World} {K : PySem.W.Frag} {mg : Str → Option Value} {base : Heap} {x qual : Str} {params : Arguments} {body : List Stmt} {scope : Scope} {dvs : List V} {kws : List (Str × V)} {L ps : List Str} {k : Nat} {f : Addr} {b : ZS}
theorem fn_mk0 (F : ∃ fd, FunD K x qual params body scope dvs kws f fd) (S : FnScope L ps scope)
    (hbody : ∀ (cdv : Value) (A : Around) (outer : List Env) (s : Shared) (H : Hp) (E : XK), Room k (A.deeper (envOfC qual scope s.heap.objs.size f cdv)) → SSs N (cxOf CX0 P w K mg base L qual scope f cdv A outer s H E) (fun _ => E0) body b) (h0 : N.xh = none := by rfl) :
    FnM N P w K mg base CX0 (k + 1) f (FunD K x qual params body scope dvs kws f) ps (runB0 L.length b) := by
  obtain ⟨fd, F⟩ := F
  refine ⟨fd, F, F.kp, F.ok S (fun vs H Q E h => ?_) fun cdv A outer s H vs Q E hr h => ?_⟩
  · obtain ⟨m, S', args, h1, _, h3, _⟩ := h
    rw [← h3.len]; exact h1
  · obtain ⟨m, S', args, h1, h2, h3, h4⟩ := h
    obtain ⟨t, p, sm⟩ := (hbody cdv A outer s H E hr).ex
    refine ⟨t, p, sm m S' H _ _ _ h2 (enter_ok h0 h3) ?_⟩
    unfold runB0 at h4
    cases q : b (enter L.length args) S' with
    | ok v S1 =>
      rw [q] at h4
      cases v with
      | nx e => exact fun m' H' σ' e' s' r' => h4 m' H' .non e' s' .non
      | rt v => exact h4
      | bk e => exact h4.elim
      | ct e => exact h4.elim
      | er c x e => exact h4.elim
    | err c x S1 => rw [q] at h4; exact h4.elim
    | bad => rw [q] at h4; exact h4.elim
theorem fn_mkX (F : ∃ fd, FunD K x qual params body scope dvs kws f fd) (S : FnScope L ps scope)
    (hbody : ∀ (cdv : Value) (A : Around) (outer : List Env) (s : Shared) (H : Hp) (E : XK), Room k (A.deeper (envOfC qual scope s.heap.objs.size f cdv)) → SSs N (cxOf (L2.CX P w) P w K mg base L qual scope f cdv A outer s H E) (fun _ => E) body b) (h0 : N.xh = none := by rfl) :
    FnM N P w K mg base (L2.CX P w) (k + 1) f (FunD K x qual params body scope dvs kws f) ps (runBX L.length b) := by
  obtain ⟨fd, F⟩ := F
  refine ⟨fd, F, F.kp, F.ok S (fun vs H Q E h => ?_) fun cdv A outer s H vs Q E hr h => ?_⟩
  · obtain ⟨m, S', args, h1, _, h3, _⟩ := h
    rw [← h3.len]; exact h1
  · obtain ⟨m, S', args, h1, h2, h3, h4⟩ := h
    obtain ⟨t, p, sm⟩ := (hbody cdv A outer s H E hr).ex
    refine ⟨t, p, sm m S' H _ _ _ h2 (enter_ok h0 h3) ?_⟩
    unfold runBX at h4
    cases q : b (enter L.length args) S' with
    | ok v S1 =>
      rw [q] at h4
      cases v with
      | nx e => exact fun m' H' σ' e' s' r' => h4 m' H' .non e' s' .non
      | rt v => exact h4
      | bk e => exact h4.elim
      | ct e => exact h4.elim
      | er c x e => exact fun m' H' d σ' e' s' _ x' => h4 m' H' d e' s' x'
    | err c x S1 => rw [q] at h4; exact h4.elim
    | bad => rw [q] at h4; exact h4.elim
end
theorem pas0 {X : Cx} {W : L2.St → XK} : ∀ σ, PassesAt CX0 X σ (W σ) := fun _ _ _ _ _ _ _ h => h.elim
theorem pasL {X : Cx} : ∀ σ : L2.St, PassesAt (L2.CX X.prog X.w) X σ ((fun _ => E0) σ) := fun σ pins H s e s' I h => passL pins σ H s e s' I h
end Nt

namespace Nt
open PySem PySem.Spec PyProof.Rows L2 Evl
/-! ### operators by values -/
def vAdd : Vl → Vl → Sto → Out Vl
  | .int i, .int j, S => .ok (.int (i + j)) S
  | .str a, .str b, S => if a.length + b.length ≤ 100000 then .ok (.str (a ++ b)) S else .bad
  | .tup xs, .tup ys, S => if xs.length + ys.length ≤ 100000 then .ok (.tup (xs ++ ys)) S else .bad
  | .ref i, .ref j, S => match S[i]?, S[j]? with
    | some (.lst xs), some (.lst ys) => if xs.length + ys.length ≤ 100000 then .ok (.ref S.length) (S ++ [.lst (xs ++ ys)]) else .bad
    | _, _ => .bad
  | _, _, _ => .bad
def vSub : Vl → Vl → Sto → Out Vl
  | .int i, .int j, S => .ok (.int (i - j)) S
  | _, _, _ => .bad
def vMul : Vl → Vl → Sto → Out Vl
  | .int i, .int j, S => if ((-(2 ^ 64) < i ∧ i < 2 ^ 64) ∨ (-(2 ^ 64) < j ∧ j < 2 ^ 64)) ∨ i.natAbs.log2 + j.natAbs.log2 < 1000000 then .ok (.int (i * j)) S else .bad
  | _, _, _ => .bad
def vDiv : Vl → Vl → Sto → Out Vl
  | .int i, .int j, S => if 0 < j ∧ j.natAbs.log2 < 9000 then .ok (.int (i / j)) S else .bad
  | _, _, _ => .bad
def vMod : Vl → Vl → Sto → Out Vl
  | .int i, .int j, S => if 0 < j then .ok (.int (i % j)) S else .bad
  | _, _, _ => .bad
def vPow : Vl → Vl → Sto → Out Vl
  | .int i, .int j, S => if 0 ≤ j ∧ j ≤ 1000000 ∧ i.natAbs < 2 ^ 64 then .ok (.int (i ^ j.toNat)) S else .bad
  | _, _, _ => .bad
def vCmpI (g : Int → Int → Bool) : Vl → Vl → Sto → Out Vl
  | .int i, .int j, S => .ok (.bl (g i j)) S
  | _, _, _ => .bad
abbrev vLt := vCmpI fun i j => decide (i < j)
abbrev vLe := vCmpI fun i j => decide (i ≤ j)
abbrev vGt := vCmpI fun i j => decide (j < i)
abbrev vGe := vCmpI fun i j => decide (j ≤ i)
def vNeg : Vl → Sto → Out Vl
  | .int i, S => .ok (.int (-i)) S
  | _, _ => .bad
section
variable {N : Nms} {X : Cx}
theorem opm_add : OpM N X (binaryOp .Add) vAdd := by
  refine ⟨_, (op_add.or (op_add_str.or (op_cat.or op_catA))), fun m S H x y u w Q E s rx ry h => ?_⟩
  unfold vAdd at h
  split at h
  · cases rx; cases ry; exact .inl ⟨_, _, rfl, rfl, h.ok s (.int _)⟩
  · split at h
    · rename_i q; cases rx; cases ry; exact .inr (.inl ⟨_, _, rfl, rfl, sz_of q, h.ok s (.str _)⟩)
    · exact h.elim
  · split at h
    · rename_i xs ys q
      obtain ⟨a, us, rfl, h1, h2⟩ := rx.tup'
      obtain ⟨b, ws, rfl, h3, h4⟩ := ry.tup'
      refine .inr (.inr (.inr ⟨a, b, us, ws, rfl, rfl, st_of h1, st_of h3, sz_of (by rw [← h2.len, ← h4.len]; exact q), fun e => ?_, fun e1 e2 => ?_, fun e1 e2 p hp => ?_⟩))
      · subst e; cases h2; exact h.ok s (.tup h3 h4)
      · subst e2; cases h4; rw [List.append_nil] at h; exact h.ok s (.tup h1 h2)
      · have ex : Ext X.K m H m (upd H p (.tup (us ++ ws))) := Ext.same (Same.new hp)
        exact h.to ex (s.same (Same.new hp)) (.tup upd_same ((h2.append h4).mono ex))
    · exact h.elim
  · split at h
    · rename_i xs ys q1 q2
      split at h
      · rename_i q
        obtain ⟨a, rfl, h1⟩ := rx.ref'
        obtain ⟨b, rfl, h2⟩ := ry.ref'
        obtain ⟨us, h3, h4⟩ := s.lst h1 q1
        obtain ⟨ws, h5, h6⟩ := s.lst h2 q2
        refine .inr (.inr (.inl ⟨a, b, us, ws, rfl, rfl, h3, h5, sz_of (by rw [← h4.len, ← h6.len]; exact q), fun p hp => ?_⟩))
        exact h.to (Ext.app (Same.new hp)) (s.new (Same.new hp) hp upd_same (.lst (h4.append h6))) s.ref_new
      · exact h.elim
    · exact h.elim
  · exact h.elim
theorem opm_sub : OpM N X (binaryOp .Sub) vSub := by
  refine ⟨_, op_sub, fun m S H x y u w Q E s rx ry h => ?_⟩
  unfold vSub at h
  split at h
  · cases rx; cases ry; exact ⟨_, _, rfl, rfl, h.ok s (.int _)⟩
  · exact h.elim
theorem opm_mul : OpM N X (binaryOp .Mult) vMul := by
  refine ⟨_, op_mul.or op_mulW, fun m S H x y u w Q E s rx ry h => ?_⟩
  unfold vMul at h
  split at h
  · split at h
    · rename_i q
      cases rx; cases ry
      rcases q with q | q
      · exact .inl ⟨_, _, rfl, rfl, q, h.ok s (.int _)⟩
      · exact .inr ⟨_, _, rfl, rfl, q, h.ok s (.int _)⟩
    · exact h.elim
  · exact h.elim
theorem opm_div : OpM N X (binaryOp .FloorDiv) vDiv := by
  refine ⟨_, op_fdivW, fun m S H x y u w Q E s rx ry h => ?_⟩
  unfold vDiv at h
  split at h
  · split at h
    · rename_i q; cases rx; cases ry; exact ⟨_, _, rfl, rfl, q, h.ok s (.int _)⟩
    · exact h.elim
  · exact h.elim
theorem opm_mod : OpM N X (binaryOp .Mod) vMod := by
  refine ⟨_, op_mod, fun m S H x y u w Q E s rx ry h => ?_⟩
  unfold vMod at h
  split at h
  · split at h
    · rename_i q; cases rx; cases ry; exact ⟨_, _, rfl, rfl, q, h.ok s (.int _)⟩
    · exact h.elim
  · exact h.elim
theorem opm_pow : OpM N X (binaryOp .Pow) vPow := by
  refine ⟨_, op_pow, fun m S H x y u w Q E s rx ry h => ?_⟩
  unfold vPow at h
  split at h
  · split at h
    · rename_i q; cases rx; cases ry; exact ⟨_, _, rfl, rfl, q, h.ok s (.int _)⟩
    · exact h.elim
  · exact h.elim
theorem ops_cmpI {g : Int → Int → Bool} {K : PySem.W.Frag} : OpS N K (rI0 fun i j => .bl (g i j)) (vCmpI g) := fun m S H x y u w Q E s rx ry h => by
  unfold vCmpI at h
  split at h
  · cases rx; cases ry; exact ⟨_, _, rfl, rfl, h.ok s (.bl _)⟩
  · exact h.elim
theorem opm_lt : OpM N X (compareOp .Lt) vLt := ⟨_, op_lt, ops_cmpI⟩
theorem opm_le : OpM N X (compareOp .LtE) vLe := ⟨_, op_le, ops_cmpI⟩
theorem opm_gt : OpM N X (compareOp .Gt) vGt := ⟨_, op_gt, ops_cmpI⟩
theorem opm_ge : OpM N X (compareOp .GtE) vGe := ⟨_, op_ge, ops_cmpI⟩
theorem uns_neg {K : PySem.W.Frag} : UnS N K (rU fun i => .int (-i)) vNeg := fun m S H x u Q E s rx h => by
  unfold vNeg at h
  split at h
  · cases rx; exact ⟨_, rfl, h.ok s (.int _)⟩
  · exact h.elim
theorem se_neg {W : L2.St → XK} {a : Expr} {fa : XE'} {pos : Pos} (ha : SE N X W a fa) : SE N X W (.UnaryOp .USub a pos) (xUn vNeg fa) := se_un un_neg uns_neg ha
end
/-! ### op= -/
def vIadd : Vl → Vl → Sto → Out Vl
  | .int i, .int j, S => .ok (.int (i + j)) S
  | .ref i, .ref j, S => match S[i]?, S[j]? with
    | some (.lst xs), some (.lst ys) => if xs.length + ys.length ≤ 100000 then .ok (.ref i) (S.set i (.lst (xs ++ ys))) else .bad
    | _, _ => .bad
  | _, _, _ => .bad
section
variable {N : Nms} {X : Cx}
theorem opm_iadd : OpM N X (inplaceOp .Add) vIadd := by
  refine ⟨_, (OpR.or (fun pins s σ H x y v u Q I rx ry q => ip_add pins s σ H x y v u Q I rx ry q) iop_ext), fun m S H x y u w Q E s rx ry h => ?_⟩
  unfold vIadd at h
  split at h
  · cases rx; cases ry; exact .inl ⟨_, _, rfl, rfl, h.ok s (.int _)⟩
  · split at h
    · rename_i i j xs ys q1 q2
      split at h
      · rename_i q
        have rx0 := rx
        obtain ⟨a, rfl, h1⟩ := rx.ref'
        obtain ⟨b, rfl, h2⟩ := ry.ref'
        obtain ⟨us, h3, h4⟩ := s.lst h1 q1
        obtain ⟨ws, h5, h6⟩ := s.lst h2 q2
        have ex : Ext X.K m H m (upd H a (.lst (us ++ ws))) := Ext.upd h3 trivial
        exact .inr ⟨a, b, us, ws, rfl, rfl, h3, h5, sz_of (by rw [← h4.len, ← h6.len]; exact q), h.to ex (s.set h1 h3 trivial (.lst (h4.append h6))) (rx0.mono ex)⟩
      · exact h.elim
    · exact h.elim
  · exact h.elim
theorem opm_isub : OpM N X (inplaceOp .Sub) vSub := by
  refine ⟨_, (fun pins s σ H x y v u Q I rx ry q => ip_sub pins s σ H x y v u Q I rx ry q), fun m S H x y u w Q E s rx ry h => ?_⟩
  unfold vSub at h
  split at h
  · cases rx; cases ry; exact ⟨_, _, rfl, rfl, h.ok s (.int _)⟩
  · exact h.elim
end
/-! ### data: == and in -/
def allD {α β : Type} (f : α → Option β) : List α → Option (List β)
  | [] => some []
  | x :: xs => match f x, allD f xs with
    | some d, some ds => some (d :: ds)
    | _, _ => none
/-- a value as data, lists read -/
def toD : Nat → Sto → Vl → Option PyData
  | 0, _, _ => none
  | n + 1, S, v => match v with
    | .non => some .none
    | .bl b => some (.bool b)
    | .int i => some (.int i)
    | .str s => some (.str s)
    | .tup xs => (allD (toD n S) xs).map .tuple
    | .ktp xs => (allD (toD n S) xs).map .tuple
    | .ref i => match S[i]? with
      | some (.lst xs) => (allD (toD n S) xs).map .list
      | _ => none
    | .scr ns => some (.list (ns.map .int))
    | _ => none
theorem allD_dp {N : Nms} {K : PySem.W.Frag} {m : List Addr} {H : Hp} {f : Vl → Option PyData} (hf : ∀ x u d, f x = some d → Vr N K m H x u → Dp K H u d) : ∀ {xs : List Vl} {us : List V} {ds : List PyData}, allD f xs = some ds → Vrs N K m H xs us → DpAll K H us ds
  | [], _, _, e, .nil => by cases e; exact .nil
  | x :: xs, _, ds, e, .cons r rs => by
    unfold allD at e
    split at e
    · rename_i d ds' q1 q2
      cases e
      exact .cons (hf _ _ _ q1 r) (allD_dp hf q2 rs)
    · cases e
theorem dpAll_ints {K : PySem.W.Frag} {H : Hp} : ∀ ns : List Int, DpAll K H (ns.map V.int) (ns.map PyData.int)
  | [] => .nil
  | n :: ns => .cons (.int n) (dpAll_ints ns)
theorem toD_dp {N : Nms} {K : PySem.W.Frag} {m : List Addr} {S : Sto} {H : Hp} (s : SR N K m S H) : ∀ (n : Nat) (x : Vl) (u : V) (d : PyData), toD n S x = some d → Vr N K m H x u → Dp K H u d
  | 0, x, u, d, e, _ => by cases e
  | n + 1, x, u, d, e, r => by
    unfold toD at e
    split at e
    · cases e; cases r; exact .non
    · cases e; cases r; exact .bl _
    · cases e; cases r; exact .int _
    · cases e; cases r; exact .str _
    · obtain ⟨a, ys, rfl, h1, h2⟩ := r.asT rfl
      rename_i xs
      cases q : allD (toD n S) xs with
      | none => rw [q] at e; cases e
      | some ds =>
        rw [q] at e
        cases e
        exact .tup h1 (allD_dp (fun x u d e r => toD_dp s n x u d e r) q h2)
    · obtain ⟨a, ys, rfl, h1, h2⟩ := r.asT rfl
      rename_i xs
      cases q : allD (toD n S) xs with
      | none => rw [q] at e; cases e
      | some ds =>
        rw [q] at e
        cases e
        exact .tup h1 (allD_dp (fun x u d e r => toD_dp s n x u d e r) q h2)
    · obtain ⟨a, rfl, h1⟩ := r.ref'
      split at e
      · rename_i xs hS
        obtain ⟨ys, h2, h3⟩ := s.lst h1 hS
        cases q : allD (toD n S) xs with
        | none => rw [q] at e; cases e
        | some ds =>
          rw [q] at e
          cases e
          exact .lst (sq_of h2) (allD_dp (fun x u d e r => toD_dp s n x u d e r) q h3)
      · cases e
    · obtain ⟨a, rfl, h1⟩ := r.scr'
      cases e
      exact .lst h1.l (dpAll_ints _)
    · cases e
theorem plainAll_ints : ∀ ns : List Int, PyData.plainAll (ns.map PyData.int) = true
  | [] => rfl
  | n :: ns => by rw [List.map_cons, PyData.plainAll, plainAll_ints ns]; rfl
theorem depthAll_ints : ∀ ns : List Int, PyData.depthAll (ns.map PyData.int) = 0
  | [] => rfl
  | n :: ns => by rw [List.map_cons, PyData.depthAll, depthAll_ints ns]; rfl
theorem allD_plain {α : Type} {f : α → Option PyData} {n : Nat} (hf : ∀ x d, f x = some d → d.plain = true ∧ d.depth ≤ n) : ∀ {xs : List α} {ds : List PyData}, allD f xs = some ds → PyData.plainAll ds = true ∧ PyData.depthAll ds ≤ n
  | [], _, e => by cases e; exact ⟨rfl, Nat.zero_le _⟩
  | x :: xs, ds, e => by
    unfold allD at e
    split at e
    · rename_i d ds' q1 q2
      cases e
      obtain ⟨a1, a2⟩ := hf _ _ q1
      obtain ⟨b1, b2⟩ := allD_plain hf q2
      refine ⟨by rw [PyData.plainAll, a1, b1]; rfl, by rw [PyData.depthAll]; exact Nat.max_le.mpr ⟨a2, b2⟩⟩
    · cases e
theorem toD_plain : ∀ (n : Nat) (S : Sto) (x : Vl) (d : PyData), toD n S x = some d → d.plain = true ∧ d.depth ≤ n
  | 0, S, x, d, e => by cases e
  | n + 1, S, x, d, e => by
    unfold toD at e
    split at e
    · cases e; exact ⟨rfl, Nat.zero_le _⟩
    · cases e; exact ⟨rfl, Nat.zero_le _⟩
    · cases e; exact ⟨rfl, Nat.zero_le _⟩
    · cases e; exact ⟨rfl, Nat.zero_le _⟩
    · rename_i xs
      cases q : allD (toD n S) xs with
      | none => rw [q] at e; cases e
      | some ds =>
        rw [q] at e
        cases e
        obtain ⟨h1, h2⟩ := allD_plain (fun x d e => toD_plain n S x d e) q
        exact ⟨by rw [PyData.plain]; exact h1, by rw [PyData.depth]; omega⟩
    · rename_i xs
      cases q : allD (toD n S) xs with
      | none => rw [q] at e; cases e
      | some ds =>
        rw [q] at e
        cases e
        obtain ⟨h1, h2⟩ := allD_plain (fun x d e => toD_plain n S x d e) q
        exact ⟨by rw [PyData.plain]; exact h1, by rw [PyData.depth]; omega⟩
    · split at e
      · rename_i xs hS
        cases q : allD (toD n S) xs with
        | none => rw [q] at e; cases e
        | some ds =>
          rw [q] at e
          cases e
          obtain ⟨h1, h2⟩ := allD_plain (fun x d e => toD_plain n S x d e) q
          exact ⟨by rw [PyData.plain]; exact h1, by rw [PyData.depth]; omega⟩
      · cases e
    · cases e
      exact ⟨by rw [PyData.plain]; exact plainAll_ints _, by rw [PyData.depth, depthAll_ints]; omega⟩
    · cases e
def vEq (x y : Vl) (S : Sto) : Out Vl := match toD 60 S x, toD 60 S y with
  | some d, some e => .ok (.bl (PyData.eqv d e)) S
  | _, _ => .bad
def vNe (x y : Vl) (S : Sto) : Out Vl := match toD 60 S x, toD 60 S y with
  | some d, some e => .ok (.bl (!PyData.eqv d e)) S
  | _, _ => .bad
section
variable {N : Nms} {X : Cx}
theorem opm_eq (hu : X.A.units + 64 < cLine) : OpM N X (compareOp .Eq) vEq := by
  refine ⟨_, op_eqP hu, fun m S H x y u w Q E s rx ry h => ?_⟩
  unfold vEq at h
  split at h
  · rename_i d e q1 q2
    obtain ⟨a1, a2⟩ := toD_plain _ _ _ _ q1
    obtain ⟨b1, b2⟩ := toD_plain _ _ _ _ q2
    exact ⟨d, e, toD_dp s _ _ _ _ q1 rx, toD_dp s _ _ _ _ q2 ry, a1, b1, by omega, h.ok s (.bl _)⟩
  · exact h.elim
theorem opm_ne (hu : X.A.units + 64 < cLine) : OpM N X (compareOp .NotEq) vNe := by
  refine ⟨_, op_neP hu, fun m S H x y u w Q E s rx ry h => ?_⟩
  unfold vNe at h
  split at h
  · rename_i d e q1 q2
    obtain ⟨a1, a2⟩ := toD_plain _ _ _ _ q1
    obtain ⟨b1, b2⟩ := toD_plain _ _ _ _ q2
    exact ⟨d, e, toD_dp s _ _ _ _ q1 rx, toD_dp s _ _ _ _ q2 ry, a1, b1, by omega, h.ok s (.bl _)⟩
  · exact h.elim
end
/-! ### is -/
def isNon : Vl → Bool
  | .non => true
  | _ => false
def vIs : Vl → Vl → Sto → Out Vl
  | x, .non, S => .ok (.bl (isNon x)) S
  | .bl a, .bl b, S => .ok (.bl (decide (a = b))) S
  | _, _, _ => .bad
def vIsNot : Vl → Vl → Sto → Out Vl
  | x, .non, S => .ok (.bl (!isNon x)) S
  | .bl a, .bl b, S => .ok (.bl (!decide (a = b))) S
  | _, _, _ => .bad
section
variable {N : Nms} {X : Cx}
theorem isNon_of {K : PySem.W.Frag} {m : List Addr} {H : Hp} {x : Vl} {u : V} (r : Vr N K m H x u) : decide (u = .non) = isNon x := by
  cases r <;> first | rfl | (apply decide_eq_false; intro z; cases z)
theorem opm_is : OpM N X (compareOp .Is) vIs := by
  refine ⟨_, op_isN.or op_is_bl, fun m S H x y u w Q E s rx ry h => ?_⟩
  unfold vIs at h
  split at h
  · cases ry; exact .inl ⟨rfl, by rw [isNon_of rx]; exact h.ok s (.bl _)⟩
  · cases rx; cases ry; exact .inr ⟨_, _, rfl, rfl, h.ok s (.bl _)⟩
  · exact h.elim
theorem opm_isnot : OpM N X (compareOp .IsNot) vIsNot := by
  refine ⟨_, op_notN.or op_isnot_bl, fun m S H x y u w Q E s rx ry h => ?_⟩
  unfold vIsNot at h
  split at h
  · cases ry; exact .inl ⟨rfl, by rw [isNon_of rx]; exact h.ok s (.bl _)⟩
  · cases rx; cases ry; exact .inr ⟨_, _, rfl, rfl, h.ok s (.bl _)⟩
  · exact h.elim
end
/-! ### keys, dicts -/
def toK : Vl → Option Key
  | .int i => some (.inl i)
  | .str s => some (.inr s)
  | _ => none
def getK {κ : Type} [DecidableEq κ] (kvs : List (κ × Vl)) (k : κ) : Option Vl := (kvs.find? fun kv => decide (kv.1 = k)).map (·.2)
def setK {κ : Type} [DecidableEq κ] (kvs : List (κ × Vl)) (k : κ) (v : Vl) : List (κ × Vl) := if kvs.any (fun kv => decide (kv.1 = k)) then kvs.map fun kv => if kv.1 = k then (kv.1, v) else kv else kvs ++ [(k, v)]
end Nt

namespace Nt
open PySem PySem.Spec PyProof.Rows L2 Evl
section
variable {N : Nms} {K : PySem.W.Frag} {m : List Addr} {H : Hp} {κ : Type} [DecidableEq κ]
theorem KR.none : ∀ {xs : List (κ × Vl)} {ys : List (κ × V)} {k : κ}, KR N K m H xs ys → getK xs k = none → valV ys k = none
  | _, _, _, .nil, _ => rfl
  | (j, x) :: xs, _, k, .cons h r, e => by
    by_cases q : j = k
    · unfold getK at e
      rw [List.find?_cons_of_pos (by simpa using q)] at e
      cases e
    · rw [valV_neg (by simpa using q)]
      refine KR.none r ?_
      unfold getK at e ⊢
      rw [List.find?_cons_of_neg (by simpa using q)] at e
      exact e
theorem KR.some : ∀ {xs : List (κ × Vl)} {ys : List (κ × V)} {k : κ} {v : Vl}, KR N K m H xs ys → getK xs k = some v → ∃ u, valV ys k = Option.some u ∧ Vr N K m H v u
  | _, _, _, _, .nil, e => by cases e
  | (j, x) :: xs, _, k, v, .cons (u := u) h r, e => by
    by_cases q : j = k
    · unfold getK at e
      rw [List.find?_cons_of_pos (by simpa using q)] at e
      cases e
      exact ⟨u, valV_pos q, h⟩
    · rw [valV_neg (by simpa using q)]
      refine KR.some r ?_
      unfold getK at e ⊢
      rw [List.find?_cons_of_neg (by simpa using q)] at e
      exact e
theorem KR.any {k : κ} : ∀ {xs : List (κ × Vl)} {ys : List (κ × V)}, KR N K m H xs ys → xs.any (fun kv => decide (kv.1 = k)) = ys.any (fun kv => decide (kv.1 = k))
  | _, _, .nil => rfl
  | _, _, .cons h r => by rw [List.any_cons, List.any_cons, KR.any r]
theorem KR.append {k : κ} {v : Vl} {u : V} (rv : Vr N K m H v u) : ∀ {xs : List (κ × Vl)} {ys : List (κ × V)}, KR N K m H xs ys → KR N K m H (xs ++ [(k, v)]) (ys ++ [(k, u)])
  | _, _, .nil => .cons rv .nil
  | _, _, .cons h r => .cons h (KR.append rv r)
theorem KR.map {k : κ} {v : Vl} {u : V} (rv : Vr N K m H v u) : ∀ {xs : List (κ × Vl)} {ys : List (κ × V)}, KR N K m H xs ys → KR N K m H (xs.map fun kv => if kv.1 = k then (kv.1, v) else kv) (ys.map fun kv => if kv.1 = k then (kv.1, u) else kv)
  | _, _, .nil => .nil
  | (j, x) :: xs, _, .cons h r => by
    rw [List.map_cons, List.map_cons]
    by_cases q : j = k
    · rw [if_pos (by exact q), if_pos (by exact q)]; exact .cons rv (KR.map rv r)
    · rw [if_neg (by exact q), if_neg (by exact q)]; exact .cons h (KR.map rv r)
theorem KR.put {xs : List (κ × Vl)} {ys : List (κ × V)} {k : κ} {v : Vl} {u : V} (r : KR N K m H xs ys) (rv : Vr N K m H v u) : KR N K m H (setK xs k v) (putK ys k u) := by
  unfold setK putK
  rw [← r.any]
  split
  · exact r.map rv
  · exact r.append rv
end
def toKs (x : Vl) : Option (List Key) := match x with
  | .tup xs => allD toK xs
  | _ => none
theorem toK_kV {N : Nms} {K : PySem.W.Frag} {m : List Addr} {H : Hp} {x : Vl} {u : V} {k : Key} (e : toK x = some k) (r : Vr N K m H x u) : u = kV k := by
  cases x with
  | int i => cases e; cases r; rfl
  | str i => cases e; cases r; rfl
  | _ => cases e
theorem allK_kV {N : Nms} {K : PySem.W.Frag} {m : List Addr} {H : Hp} : ∀ {xs : List Vl} {us : List V} {ks : List Key}, allD toK xs = some ks → Vrs N K m H xs us → us = ks.map kV
  | [], _, _, e, .nil => by cases e; rfl
  | x :: xs, _, ks, e, .cons r rs => by
    unfold allD at e
    split at e
    · rename_i d ds' q1 q2
      cases e
      rw [toK_kV q1 r, allK_kV q2 rs]
      rfl
    · cases e
/-- what a dict holds at a key; none: there is no such dict -/
def dGet (S : Sto) (i : Nat) (x : Vl) : Option (Option Vl) := match S[i]? with
  | some (.dk kvs) => match toK x with
    | some k => some (getK kvs k)
    | none => none
  | some (.dt kvs) => match toKs x with
    | some ks => some (getK kvs ks)
    | none => none
  | _ => none
def dPut (S : Sto) (i : Nat) (x v : Vl) : Option Sto := match S[i]? with
  | some (.dk kvs) => match toK x with
    | some k => if kvs.length < 100000 then some (S.set i (.dk (setK kvs k v))) else none
    | none => none
  | some (.dt kvs) => match toKs x with
    | some ks => if kvs.length < 100000 then some (S.set i (.dt (setK kvs ks v))) else none
    | none => none
  | _ => none
section
variable {N : Nms} {K : PySem.W.Frag} {m : List Addr} {S S' : Sto} {H : Hp} {i : Nat} {a : Addr} {x v : Vl} {u w : V}
inductive OR (N : Nms) (K : PySem.W.Frag) (m : List Addr) (H : Hp) : Option Vl → Option V → Prop
  | none : OR N K m H .none .none
  | some {v : Vl} {w : V} : Vr N K m H v w → OR N K m H (.some v) (.some w)
theorem KR.or {κ : Type} [DecidableEq κ] {xs : List (κ × Vl)} {ys : List (κ × V)} {k : κ} (r : KR N K m H xs ys) : OR N K m H (getK xs k) (valV ys k) := by
  cases q : getK xs k with
  | none => rw [r.none q]; exact .none
  | some v =>
    obtain ⟨w, h1, h2⟩ := r.some q
    rw [h1]
    exact .some h2
theorem dGet_ok {o : Option Vl} (s : SR N K m S H) (hm : m[i]? = some a) (rx : Vr N K m H x u) (h : dGet S i x = some o) : ∃ o', DGet H a u o' ∧ OR N K m H o o' := by
  unfold dGet at h
  split at h
  · rename_i kvs hS
    split at h
    · rename_i k hk
      cases h
      obtain ⟨ys, h1, h2⟩ := s.dk hm hS
      cases toK_kV hk rx
      exact ⟨_, .k h1, h2.or⟩
    · cases h
  · rename_i kvs hS
    split at h
    · rename_i k hk
      cases h
      obtain ⟨ys, h1, h2⟩ := s.dt hm hS
      unfold toKs at hk
      split at hk
      · rename_i xs
        obtain ⟨b, us, rfl, h3, h4⟩ := rx.tup'
        cases allK_kV hk h4
        exact ⟨_, .t h1 h3, h2.or⟩
      · cases hk
    · cases h
  · cases h
theorem dPut_ok (s : SR N K m S H) (hm : m[i]? = some a) (rx : Vr N K m H x u) (rv : Vr N K m H v w) (h : dPut S i x v = some S') : ∃ H', DPut H a u w H' ∧ Ext K m H m H' ∧ SR N K m S' H' := by
  unfold dPut at h
  split at h
  · rename_i kvs hS
    split at h
    · rename_i k hk
      split at h
      · rename_i hl
        cases h
        obtain ⟨ys, h1, h2⟩ := s.dk hm hS
        cases toK_kV hk rx
        exact ⟨_, .k h1 (sz_lt (by rw [← h2.len]; exact hl)), Ext.upd h1 trivial, s.set hm h1 trivial (.dk (h2.put rv))⟩
      · cases h
    · cases h
  · rename_i kvs hS
    split at h
    · rename_i k hk
      split at h
      · rename_i hl
        cases h
        obtain ⟨ys, h1, h2⟩ := s.dt hm hS
        unfold toKs at hk
        split at hk
        · rename_i xs
          obtain ⟨b, us, rfl, h3, h4⟩ := rx.tup'
          cases allK_kV hk h4
          exact ⟨_, .t h1 h3 (sz_lt (by rw [← h2.len]; exact hl)), Ext.upd h1 trivial, s.set hm h1 trivial (.dt (h2.put rv))⟩
        · cases hk
      · cases h
    · cases h
  · cases h
end
/-! ### in -/
def seqIn (neg : Bool) (x : Vl) (ys : List Vl) (S : Sto) : Out Vl := match toD 58 S x, allD (toD 58 S) ys with
  | some d, some es => .ok (.bl (neg ^^ es.any fun z => PyData.eqv z d)) S
  | _, _ => .bad
def vInG (neg : Bool) (x y : Vl) (S : Sto) : Out Vl := match y with
  | .tup ys => seqIn neg x ys S
  | .ktp ys => seqIn neg x ys S
  | .scr ns => seqIn neg x (ns.map .int) S
  | .ref i => match S[i]? with
    | some (.lst ys) => seqIn neg x ys S
    | _ => match dGet S i x with
      | some o => .ok (.bl (neg ^^ o.isSome)) S
      | none => .bad
  | .str t => match x with
    | .str z => .ok (.bl (neg ^^ !(Builtin.Str.occurrences t z 0 t.length 1).isEmpty)) S
    | _ => .bad
  | _ => .bad
abbrev vIn := vInG false
abbrev vNotIn := vInG true
def rInP (K : PySem.W.Frag) (neg : Bool) : R2 := fun x y H Q => ∃ d ds, Dp K H x d ∧ (Dp K H y (.list ds) ∨ Dp K H y (.tuple ds)) ∧ d.plain = true ∧ PyData.plainAll ds = true ∧ d.depth ≤ 60 ∧ Q (.bl (neg ^^ ds.any fun z => PyData.eqv z d)) H
section
variable {N : Nms} {X : Cx}
theorem op_inP (hu : X.A.units + 64 < cLine) : OpR X (compareOp .In) (rInP X.K false) := by
  intro pins s σ H x y v u Q I rx ry h
  obtain ⟨d, ds, hd, he, sd, se, hk, q⟩ := h
  obtain ⟨as, r1⟩ := Dp.reads I d x v hd rx
  rw [Bool.false_xor] at q
  rcases he with he | he
  · obtain ⟨bs, r2⟩ := Dp.reads I (.list ds) y u he ry
    exact SeqAt.in_list_data r2 r1 se sd (by have := Nat.min_le_right (PyData.depthAll ds) d.depth; omega) ⟨.bl _, H, I, rfl, q⟩
  · obtain ⟨bs, r2⟩ := Dp.reads I (.tuple ds) y u he ry
    exact SeqAt.in_tuple_data r2 r1 se sd (by have := Nat.min_le_right (PyData.depthAll ds) d.depth; omega) ⟨.bl _, H, I, rfl, q⟩
theorem op_notInP (hu : X.A.units + 64 < cLine) : OpR X (compareOp .NotIn) (rInP X.K true) := by
  intro pins s σ H x y v u Q I rx ry h
  obtain ⟨d, ds, hd, he, sd, se, hk, q⟩ := h
  obtain ⟨as, r1⟩ := Dp.reads I d x v hd rx
  rw [Bool.true_xor] at q
  rcases he with he | he
  · obtain ⟨bs, r2⟩ := Dp.reads I (.list ds) y u he ry
    exact SeqAt.notIn_list_data r2 r1 se sd (by have := Nat.min_le_right (PyData.depthAll ds) d.depth; omega) ⟨.bl _, H, I, rfl, q⟩
  · obtain ⟨bs, r2⟩ := Dp.reads I (.tuple ds) y u he ry
    exact SeqAt.notIn_tuple_data r2 r1 se sd (by have := Nat.min_le_right (PyData.depthAll ds) d.depth; omega) ⟨.bl _, H, I, rfl, q⟩
def rDIn (neg : Bool) : R2 := fun y x H Q => ∃ a o, x = .ref a ∧ DGet H a y o ∧ Q (.bl (neg ^^ o.isSome)) H
theorem op_din (hu : X.A.units + 64 < cLine) : OpR X (compareOp .In) (rDIn false) := by
  intro pins s σ H y x v u Q I ry rx h
  obtain ⟨a, o, rfl, g, q⟩ := h
  cases rx
  rw [Bool.false_xor] at q
  exact d_in (by omega) I g ry fun s3 I3 => ⟨.bl o.isSome, H, I3, rfl, q⟩
theorem op_dnotin (hu : X.A.units + 64 < cLine) : OpR X (compareOp .NotIn) (rDIn true) := by
  intro pins s σ H y x v u Q I ry rx h
  obtain ⟨a, o, rfl, g, q⟩ := h
  cases rx
  rw [Bool.true_xor] at q
  exact d_notIn (by omega) I g ry fun s3 I3 => ⟨.bl (!o.isSome), H, I3, rfl, q⟩
def rInS (neg : Bool) : R2 := fun x y H Q => ∃ i j, x = .str i ∧ y = .str j ∧ Q (.bl (neg ^^ !(Builtin.Str.occurrences j i 0 j.length 1).isEmpty)) H
theorem ops_in {K : PySem.W.Frag} {neg : Bool} : OpS N K (rOr (rInP K neg) (rOr (rDIn neg) (rInS neg))) (vInG neg) := fun m S H x y u w Q E s rx ry h => by
  have seq : ∀ (ys : List Vl) (us : Addr × List V), (SqL K H us.1 us.2 ∨ SqT K H us.1 us.2) → w = .ref us.1 → Vrs N K m H ys us.2 → Post N K (Vr N K) m H Q E (seqIn neg x ys S) → rInP K neg u w H Q := fun ys us hs e rr h => by
    subst e
    unfold seqIn at h
    split at h
    · rename_i d es q1 q2
      obtain ⟨a1, a2⟩ := toD_plain _ _ _ _ q1
      obtain ⟨b1, b2⟩ := allD_plain (fun x d e => toD_plain 58 S x d e) q2
      have da := allD_dp (fun x u d e r => toD_dp s 58 x u d e r) q2 rr
      refine ⟨d, es, toD_dp s _ _ _ _ q1 rx, ?_, a1, b1, by omega, h.ok s (.bl _)⟩
      rcases hs with hs | hs
      · exact .inl (.lst hs da)
      · exact .inr (.tup hs da)
    · exact h.elim
  unfold vInG at h
  split at h
  · obtain ⟨a, ys, rfl, h1, h2⟩ := ry.asT rfl
    exact .inl (seq _ (a, ys) (.inr h1) rfl h2 h)
  · obtain ⟨a, ys, rfl, h1, h2⟩ := ry.asT rfl
    exact .inl (seq _ (a, ys) (.inr h1) rfl h2 h)
  · obtain ⟨a, rfl, h1⟩ := ry.scr'
    exact .inl (seq _ (a, _) (.inl h1.l) rfl (Vrs.ofInts _) h)
  · obtain ⟨a, rfl, h1⟩ := ry.ref'
    split at h
    · rename_i ys hS
      obtain ⟨us, h2, h3⟩ := s.lst h1 hS
      exact .inl (seq _ (a, us) (.inl (sq_of h2)) rfl h3 h)
    · split at h
      · rename_i o ho
        obtain ⟨o', g, q⟩ := dGet_ok s h1 rx ho
        refine .inr (.inl ⟨a, o', rfl, g, ?_⟩)
        cases q with
        | none => exact h.ok s (.bl _)
        | some _ => exact h.ok s (.bl _)
      · exact h.elim
  · split at h
    · cases rx; cases ry; exact .inr (.inr ⟨_, _, rfl, rfl, h.ok s (.bl _)⟩)
    · exact h.elim
  · exact h.elim
theorem opm_in (hu : X.A.units + 64 < cLine) : OpM N X (compareOp .In) vIn := ⟨_, (op_inP hu).or ((op_din hu).or (r' := rInS false) (fun pins s σ H x y v u Q I rx ry q => op_in_str pins s σ H x y v u Q I rx ry (by
  obtain ⟨i, j, e1, e2, q⟩ := q
  rw [Bool.false_xor] at q
  exact ⟨i, j, e1, e2, q⟩))), ops_in⟩
theorem opm_notin (hu : X.A.units + 64 < cLine) : OpM N X (compareOp .NotIn) vNotIn := ⟨_, (op_notInP hu).or ((op_dnotin hu).or (r' := rInS true) (fun pins s σ H x y v u Q I rx ry q => op_notIn_str pins s σ H x y v u Q I rx ry (by
  obtain ⟨i, j, e1, e2, q⟩ := q
  rw [Bool.true_xor] at q
  exact ⟨i, j, e1, e2, q⟩))), ops_in⟩
end
end Nt

namespace Nt
open PySem PySem.Spec PyProof.Rows L2 Evl
/-! ### subscripts -/
def cdI (cs : List Nat) (i : Int) : Option Vl := (atI cs i).map fun c => .str ⟨#[c]⟩
def vIx (x y : Vl) (S : Sto) : Out Vl := match y with
  | .int j => match x with
    | .tup xs => match atI xs j with
      | some v => .ok v S
      | none => .bad
    | .ktp xs => match atI xs j with
      | some v => .ok v S
      | none => .bad
    | .scr ns => match atI ns j with
      | some v => .ok (.int v) S
      | none => .bad
    | .str z => if z.length ≤ 100000 then match atI z.cps.toList j with
      | some c => .ok (.str ⟨#[c]⟩) S
      | none => .bad
      else .bad
    | .ref i => match S[i]? with
      | some (.lst xs) => match atI xs j with
        | some v => .ok v S
        | none => .bad
      | _ => match dGet S i y with
        | some (some v) => .ok v S
        | _ => .bad
    | _ => .bad
  | _ => match x with
    | .ref i => match dGet S i y with
      | some (some v) => .ok v S
      | _ => .bad
    | _ => .bad
structure IxM (N : Nms) (X : Cx) (g : Vl → Vl → Sto → Out Vl) : Prop where
  ex : ∃ r, IxR X r ∧ OpS N X.K r g
section
variable {N : Nms} {X : Cx} {W : L2.St → XK} {e a b c : Expr} {fa fb fc : XE'} {pos p : Pos} {x : Str}
def rIxDG : R2 := fun x y H Q => ∃ a v, x = .ref a ∧ DGet H a y (some v) ∧ Q v H
theorem ix_dict (hu : X.A.units + 64 < cLine) : IxR X rIxDG := by
  intro value slice pins s σ H x y v u Q I rx ry h hs
  obtain ⟨a, v0, rfl, g, q⟩ := h
  obtain rfl : v = Value.ref a := rx
  exact tail_any (dict_typeIs I g) slot_dict_getitem.lookup (d_getItem (by omega) I g ry fun w' s3 I3 rw' => ⟨v0, H, I3, rw', q⟩) hs
theorem Vrs.atI {K : PySem.W.Frag} {m : List Addr} {H : Hp} {xs : List Vl} {us : List V} {i : Int} {v : Vl} (r : Vrs N K m H xs us) (e : L2.atI xs i = some v) : ∃ w, L2.atI us i = some w ∧ Vr N K m H v w := by
  unfold L2.atI at e ⊢
  rw [← r.len]
  cases q : ixN xs.length i with
  | none => rw [q] at e; cases e
  | some j =>
    rw [q] at e
    exact r.get e
theorem atI_ints {ns : List Int} {i v : Int} (e : L2.atI ns i = some v) : L2.atI (ns.map V.int) i = some (.int v) := by
  unfold L2.atI at e ⊢
  rw [List.length_map]
  cases q : ixN ns.length i with
  | none => rw [q] at e; cases e
  | some j =>
    rw [q] at e
    show (ns.map V.int)[j]? = _
    rw [List.getElem?_map, show ns[j]? = some v from e]
    rfl
theorem ixm (hu : X.A.units + 64 < cLine) : IxM N X vIx := by
  refine ⟨_, (ix_list.or (ix_tup.or ix_str)).or (ix_dict hu), fun m S H x y u w Q E s rx ry h => ?_⟩
  have dc : ∀ i, x = .ref i → Post N X.K (Vr N X.K) m H Q E (match dGet S i y with | some (some v) => .ok v S | _ => .bad) → rIxDG u w H Q := fun i hx hh => by
    clear h
    subst hx
    obtain ⟨a, rfl, h1⟩ := rx.ref'
    split at hh
    · rename_i v hv
      obtain ⟨o', g, q⟩ := dGet_ok s h1 ry hv
      cases q with
      | some r => exact ⟨a, _, rfl, g, hh.ok s r⟩
    · exact hh.elim
  unfold vIx at h
  split at h
  · cases ry
    split at h
    · split at h
      · rename_i v hv
        obtain ⟨a, ys, rfl, h1, h2⟩ := rx.asT rfl
        obtain ⟨w', h3, h4⟩ := h2.atI hv
        exact .inl (.inr (.inl ⟨a, ys, _, w', rfl, rfl, h1, h3, h.ok s h4⟩))
      · exact h.elim
    · split at h
      · rename_i v hv
        obtain ⟨a, ys, rfl, h1, h2⟩ := rx.asT rfl
        obtain ⟨w', h3, h4⟩ := h2.atI hv
        exact .inl (.inr (.inl ⟨a, ys, _, w', rfl, rfl, h1, h3, h.ok s h4⟩))
      · exact h.elim
    · split at h
      · rename_i v hv
        obtain ⟨a, rfl, h1⟩ := rx.scr'
        exact .inl (.inl ⟨a, _, _, _, rfl, rfl, h1.l, atI_ints hv, h.ok s (.int _)⟩)
      · exact h.elim
    · split at h
      · rename_i hl
        split at h
        · rename_i v hv
          cases rx
          exact .inl (.inr (.inr ⟨_, _, _, rfl, rfl, sz_of hl, hv, h.ok s (.str _)⟩))
        · exact h.elim
      · exact h.elim
    · rename_i i
      split at h
      · rename_i xs hS
        split at h
        · rename_i v hv
          obtain ⟨a, rfl, h1⟩ := rx.ref'
          obtain ⟨ys, h2, h3⟩ := s.lst h1 hS
          obtain ⟨w', h4, h5⟩ := h3.atI hv
          exact .inl (.inl ⟨a, ys, _, w', rfl, rfl, sq_of h2, h4, h.ok s h5⟩)
        · exact h.elim
      · exact .inr (dc i rfl h)
    · exact h.elim
  · split at h
    · exact .inr (dc _ rfl h)
    · exact h.elim
theorem se_ix {g : Vl → Vl → Sto → Out Vl} (hr : IxM N X g) (ha : SE N X W a fa) (hb : SE N X W b fb) (hs : PlainIx b) : SE N X W (.Subscript a b pos) (xOp g fa fb) := by
  obtain ⟨r, h1, h2⟩ := hr.ex
  obtain ⟨ta, p1, s1⟩ := ha.ex
  obtain ⟨tb, p2, s2⟩ := hb.ex
  exact ⟨_, pe_ix h1 p1 p2 hs, sim_op h2 s1 s2⟩
/-! stores -/
def vSetI (o i v : Vl) (S : Sto) : Out Unit := match o with
  | .ref j => match S[j]? with
    | some (.lst xs) => match i with
      | .int k => match ixN xs.length k with
        | some q => .ok () (S.set j (.lst (xs.set q v)))
        | none => .bad
      | _ => .bad
    | _ => match dPut S j i v with
      | some S' => .ok () S'
      | none => .bad
  | _ => .bad
theorem setm (hu : X.A.units + 64 < cLine) : SetM N X vSetI := by
  refine ⟨fun o i v H Q => rSetL o i v H Q ∨ ∃ a H', o = .ref a ∧ DPut H a i v H' ∧ Q H', fun pins s σ H o i v ov iv u Q I ro ri rv h => ?_, fun m S H o i v ou iu vu Q E s ro ri rv h => ?_⟩
  · rcases h with h | ⟨a, H', rfl, g, q⟩
    · exact set_list pins s σ H o i v ov iv u Q I ro ri rv h
    · obtain rfl : ov = Value.ref a := ro
      exact d_setItem (by omega) I g ri rv fun s4 I4 => ⟨H', I4, q⟩
  · unfold vSetI at h
    split at h
    · obtain ⟨a, rfl, h1⟩ := ro.ref'
      split at h
      · rename_i xs hS
        split at h
        · split at h
          · rename_i q hq
            cases ri
            obtain ⟨ys, h2, h3⟩ := s.lst h1 hS
            exact .inl ⟨a, ys, _, q, rfl, rfl, h2, by rw [← h3.len]; exact hq, h.to (u := ()) (Ext.upd h2 trivial) (s.set h1 h2 trivial (.lst (h3.set q rv))) trivial⟩
          · exact h.elim
        · exact h.elim
      · split at h
        · rename_i S' hS'
          obtain ⟨H', g, e, s'⟩ := dPut_ok s h1 ri rv hS'
          exact .inr ⟨a, H', rfl, g, h.to (u := ()) e s' trivial⟩
        · exact h.elim
    · exact h.elim
theorem ss_dput {o i value : Expr} {fo fi fv : XE'} {pos' : Pos} (hu : X.A.units + 64 < cLine) (ho : SE N X W o fo) (hi : SE N X W i fi) (hv : SE N X W value fv) (ha : ∀ v, assign (.Subscript o i pos') X.env v = (do
      let ov ← holding [v] (eval o X.env)
      let iv ← holding [v, ov] (eval i X.env)
      standAt pos'
      holding [v, ov, iv] (setItem ov iv v)
      release [v, ov, iv] []) := by intro _; rfl) (hs : swapsWithSole [.Subscript o i pos'] value pos.line X.env = pure false := by rfl) (hw : swappedStores [.Subscript o i pos'] value X.env = pure none := by rfl)
    (h1 : (assignEach [.Subscript o i pos'] X.env).map (·.2) = [assign (.Subscript o i pos') X.env] := by rfl) : SS N X W (.Assign [.Subscript o i pos'] value pos) (zAsg fv (gmSub fo fi vSetI)) :=
  ss_asg hv (sg_sub (setm hu) ho hi ha) hs hw h1
/-! slices -/
def oNone : XO := fun _ S => .ok none S
def oSome (a : XE') : XO := fun env S => (a env S).bind fun v S1 => match v with
  | .int i => .ok (some i) S1
  | _ => .bad
theorem so_none : SO N X W none oNone := ⟨_, po_none, fun m S H env σ Q s er h => h.ok s rfl⟩
theorem so_some (ha : SE N X W a fa) : SO N X W (some a) (oSome fa) := by
  obtain ⟨ta, p1, s1⟩ := ha.ex
  refine ⟨_, po_some p1, fun m S H env σ Q s er h => s1.step s er h fun v S1 m1 H1 u e1 sr1 r1 er1 h1 => ?_⟩
  split at h1
  · cases r1; exact ⟨_, rfl, h1.ok sr1 rfl⟩
  · exact h1.elim
def cutL {α : Type} (xs : List α) (lo hi : Option Int) : List α := (xs.drop (HT.sIx xs.length 0 lo)).take (HT.sIx xs.length xs.length hi - HT.sIx xs.length 0 lo)
theorem Vrs.cut {K : PySem.W.Frag} {m : List Addr} {H : Hp} {xs : List Vl} {us : List V} (r : Vrs N K m H xs us) (lo hi : Option Int) : Vrs N K m H (cutL xs lo hi) (cutV us lo hi) := by
  unfold cutL cutV
  rw [r.len]
  exact (r.drop _).take _
def vSl (x : Vl) (lo hi : Option Int) (S : Sto) : Out Vl := match x with
  | .ref i => match S[i]? with
    | some (.lst xs) => .ok (.ref S.length) (S ++ [.lst (cutL xs lo hi)])
    | _ => .bad
  | .scr ns => .ok (.ref S.length) (S ++ [.lst (cutL (ns.map .int) lo hi)])
  | .tup xs => .ok (.tup (cutL xs lo hi)) S
  | .str z => if z.length ≤ 100000 then .ok (.str (cutS z lo hi)) S else .bad
  | _ => .bad
def xSl (a : XE') (lo hi : XO) : XE' := fun env S => (a env S).bind fun x S1 => (lo env S1).bind fun l S2 => (hi env S2).bind fun u S3 => vSl x l u S3
theorem slr_or {r r' : V → Option Int → Option Int → Hp → VK → Prop} (h : SlR X r) (h' : SlR X r') : SlR X (fun x l u H Q => r x l u H Q ∨ r' x l u H Q) := by
  intro pins s σ H x v vl vu lo hi sl Q I rx hs pl pu q
  rcases q with q | q
  · exact h pins s σ H x v vl vu lo hi sl Q I rx hs pl pu q
  · exact h' pins s σ H x v vl vu lo hi sl Q I rx hs pl pu q
theorem se_slice {lo hi : Option Expr} {fl fh : XO} {p2 : Pos} (he : SE N X W e fa) (hl : SO N X W lo fl) (hh : SO N X W hi fh) : SE N X W (.Subscript e (.Slice lo hi none p2) pos) (xSl fa fl fh) := by
  obtain ⟨ta, p1, s1⟩ := he.ex
  obtain ⟨tl, p2', s2⟩ := hl.ex
  obtain ⟨th, p3, s3⟩ := hh.ex
  refine ⟨_, pe_slice (slr_or sl_list (slr_or sl_tupA sl_str)) p1 p2' p3, fun m S H env σ Q s er h => s1.step s er h fun x S1 m1 H1 u e1 sr1 r1 er1 h1 => ?_⟩
  refine s2.step sr1 er1 h1 fun l S2 m2 H2 l' e2 sr2 r2 er2 h2 => ?_
  refine s3.step sr2 er2 h2 fun k S3 m3 H3 k' e3 sr3 r3 er3 h3 => ?_
  cases r2
  cases r3
  have rx := r1.mono (e2.trans e3)
  unfold vSl at h3
  split at h3
  · split at h3
    · rename_i xs hS
      obtain ⟨a, rfl, h4⟩ := rx.ref'
      obtain ⟨ys, h5, h6⟩ := sr3.lst h4 hS
      exact .inl ⟨a, ys, rfl, sq_of h5, fun p hp => h3.to (Ext.app (Same.new hp)) (sr3.new (Same.new hp) hp upd_same (.lst (h6.cut l k))) sr3.ref_new⟩
    · exact h3.elim
  · obtain ⟨a, rfl, h4⟩ := rx.scr'
    exact .inl ⟨a, _, rfl, h4.l, fun p hp => h3.to (Ext.app (Same.new hp)) (sr3.new (Same.new hp) hp upd_same (.lst ((Vrs.ofInts _).cut l k))) sr3.ref_new⟩
  · rename_i xs
    obtain ⟨a, ys, rfl, h4, h5⟩ := rx.tup'
    refine .inr (.inl ⟨a, ys, rfl, st_of h4, fun hw => ?_, fun _ p hp => ?_⟩)
    · have e0 : cutL xs l k = xs := by
        unfold cutL
        rw [h5.len, hw.1, hw.2, Nat.sub_zero, List.drop_zero, ← h5.len, List.take_length]
      rw [e0] at h3
      exact h3.ok sr3 (.tup h4 h5)
    · have ex : Ext X.K m3 H3 m3 (upd H3 p (.tup (cutV ys l k))) := Ext.same (Same.new hp)
      exact h3.to ex (sr3.same (Same.new hp)) (.tup upd_same ((h5.cut l k).mono ex))
  · split at h3
    · rename_i hz
      cases rx
      exact .inr (.inr ⟨_, rfl, sz_of hz, h3.ok sr3 (.str _)⟩)
    · exact h3.elim
  · exact h3.elim
/-! a written table -/
def vInT (neg : Bool) (k : Nat) (tb : List (Str × Vl)) (x y : Vl) (S : Sto) : Out Vl := match x, y with
  | .str z, .fn k' => if k' = k then .ok (.bl (neg ^^ (tb.lookup z).isSome)) S else .bad
  | _, _ => .bad
def vIxT (k : Nat) (tb : List (Str × Vl)) (x y : Vl) (S : Sto) : Out Vl := match x, y with
  | .fn k', .str z => if k' = k then match tb.lookup z with
    | some v => .ok v S
    | none => .bad
    else .bad
  | _, _ => .bad
/-- the values of a table, whatever the heap is -/
inductive TR (N : Nms) (K : PySem.W.Frag) : List (Str × Vl) → List (Str × V) → Prop
  | nil : TR N K [] []
  | cons {z : Str} {x : Vl} {u : V} {l : List (Str × Vl)} {l' : List (Str × V)} : (∀ m H, Vr N K m H x u) → TR N K l l' → TR N K ((z, x) :: l) ((z, u) :: l')
theorem TR.look {K : PySem.W.Frag} {z : Str} : ∀ {l : List (Str × Vl)} {l' : List (Str × V)}, TR N K l l' → (l.lookup z = none ∧ l'.lookup z = none) ∨ ∃ x u, l.lookup z = some x ∧ l'.lookup z = some u ∧ ∀ m H, Vr N K m H x u
  | _, _, .nil => .inl ⟨rfl, rfl⟩
  | (y, x) :: l, _, .cons h r => by
    rw [List.lookup_cons, List.lookup_cons]
    cases q : z == y with
    | true => exact .inr ⟨_, _, rfl, rfl, h⟩
    | false => exact TR.look r
theorem opm_inT {k : Nat} {tb : List (Str × Vl)} {kvs : List (Str × V)} (D : DTab X.K X.w (He.ga X.K (N.g k)) kvs) (T : TR N X.K tb kvs) : OpM N X (compareOp .In) (vInT false k tb) := by
  refine ⟨_, op_in_tab D, fun m S H x y u w Q E s rx ry h => ?_⟩
  unfold vInT at h
  split at h
  · rename_i z k'
    split at h
    · rename_i hk
      subst hk
      cases rx; cases ry
      refine ⟨z, rfl, rfl, ?_⟩
      rcases T.look (z := z) with ⟨h1, h2⟩ | ⟨x', u', h1, h2, _⟩
      · rw [h2]; rw [h1] at h; exact h.ok s (.bl _)
      · rw [h2]; rw [h1] at h; exact h.ok s (.bl _)
    · exact h.elim
  · exact h.elim
theorem opm_niT {k : Nat} {tb : List (Str × Vl)} {kvs : List (Str × V)} (D : DTab X.K X.w (He.ga X.K (N.g k)) kvs) (T : TR N X.K tb kvs) : OpM N X (compareOp .NotIn) (vInT true k tb) := by
  refine ⟨_, op_ni_tab D, fun m S H x y u w Q E s rx ry h => ?_⟩
  unfold vInT at h
  split at h
  · rename_i z k'
    split at h
    · rename_i hk
      subst hk
      cases rx; cases ry
      refine ⟨z, rfl, rfl, ?_⟩
      rcases T.look (z := z) with ⟨h1, h2⟩ | ⟨x', u', h1, h2, _⟩
      · rw [h2]; rw [h1] at h; exact h.ok s (.bl _)
      · rw [h2]; rw [h1] at h; exact h.ok s (.bl _)
    · exact h.elim
  · exact h.elim
theorem ixmT {k : Nat} {tb : List (Str × Vl)} {kvs : List (Str × V)} (D : DTab X.K X.w (He.ga X.K (N.g k)) kvs) (T : TR N X.K tb kvs) : IxM N X (vIxT k tb) := by
  refine ⟨_, ix_tab D, fun m S H x y u w Q E s rx ry h => ?_⟩
  unfold vIxT at h
  split at h
  · rename_i k' z
    split at h
    · rename_i hk
      subst hk
      cases rx; cases ry
      rcases T.look (z := z) with ⟨h1, h2⟩ | ⟨x', u', h1, h2, h3⟩
      · rw [h1] at h; exact h.elim
      · rw [h1] at h; exact ⟨z, u', rfl, rfl, h2, h.ok s (h3 m H)⟩
    · exact h.elim
  · exact h.elim
end
end Nt

namespace Nt
open PySem PySem.Spec PyProof.Rows L2 Evl
/-! ### what is walked -/
def itL (j : Nat) (n : Nat) : Itm := ⟨n, fun i S => match S[j]? with
  | some (.lst xs) => match xs[i]? with
    | some x => .yld x S
    | none => .stop
  | _ => .bad⟩
def itT (xs : List Vl) : Itm := ⟨xs.length, fun i S => match xs[i]? with
  | some x => .yld x S
  | none => .stop⟩
def itR (lo : Int) (n : Nat) : Itm := ⟨n, fun i S => if i < n then .yld (.int (lo + (i : Nat))) S else .stop⟩
def itS (z : Str) : Itm := ⟨z.cps.size, fun i S => match z.cps[i]? with
  | some c => .yld (.str ⟨#[c]⟩) S
  | none => .stop⟩
def vIter (x : Vl) (S : Sto) : Out Itm := match x with
  | .tup xs => .ok (itT xs) S
  | .ktp xs => .ok (itT xs) S
  | .scr ns => .ok (itT (ns.map .int)) S
  | .str z => .ok (itS z) S
  | .ref j => match S[j]? with
    | some (.lst xs) => .ok (itL j xs.length) S
    | _ => .bad
  | _ => .bad
def iAny (a : XE') : En → Sto → Out Itm := fun env S => (a env S).bind vIter
section
variable {N : Nms} {K : PySem.W.Frag} {m : List Addr} {H : Hp}
theorem itr_list {j : Nat} {n : Nat} {a : Addr} (hm : m[j]? = some a) : ItR N K m H (itL j n) (Itl K a) := fun m' S H' i e s => by
  have hm' := e.pre _ _ hm
  show YdR N K m' H' (Itl K a) i (match S[j]? with
    | some (.lst xs) => match xs[i]? with
      | some x => .yld x S
      | none => .stop
    | _ => .bad)
  split
  · rename_i xs hS
    obtain ⟨ys, h1, h2⟩ := s.lst hm' hS
    split
    · rename_i x hx
      obtain ⟨w, h3, h4⟩ := h2.get hx
      refine ⟨⟨ys, w, sq_of h1, h3⟩, fun u H'' hy => ?_⟩
      obtain ⟨rfl, hy⟩ := hy
      have := hy ys (sq_of h1)
      rw [h3] at this
      cases this
      exact ⟨m', Ext.refl, s, h4⟩
    · rename_i hx
      exact ⟨ys, sq_of h1, by rw [← h2.len]; exact List.getElem?_eq_none_iff.mp hx⟩
  · exact trivial
theorem itr_tup {xs : List Vl} {ys : List V} {a : Addr} (h1 : SqT K H a ys) (h2 : Vrs N K m H xs ys) : ItR N K m H (itT xs) (Itt K a) := fun m' S H' i e s => by
  have h1' := e.ktp _ _ h1
  have h2' := h2.mono e
  show YdR N K m' H' (Itt K a) i (match xs[i]? with
    | some x => .yld x S
    | none => .stop)
  split
  · rename_i x hx
    obtain ⟨w, h3, h4⟩ := h2'.get hx
    refine ⟨⟨ys, w, h1', h3⟩, fun u H'' hy => ?_⟩
    obtain ⟨rfl, hy⟩ := hy
    have := hy ys h1'
    rw [h3] at this
    cases this
    exact ⟨m', Ext.refl, s, h4⟩
  · rename_i hx
    exact ⟨ys, h1', by rw [← h2.len]; exact List.getElem?_eq_none_iff.mp hx⟩
theorem itr_scr {ns : List Int} {a : Addr} (h1 : SqF K H a (ns.map V.int)) : ItR N K m H (itT (ns.map .int)) (Itl K a) := fun m' S H' i e s => by
  have h1' := (e.scr _ _ h1).l
  have h2' : Vrs N K m' H' (ns.map Vl.int) (ns.map V.int) := Vrs.ofInts ns
  show YdR N K m' H' (Itl K a) i (match (ns.map Vl.int)[i]? with
    | some x => .yld x S
    | none => .stop)
  split
  · rename_i x hx
    obtain ⟨w, h3, h4⟩ := h2'.get hx
    refine ⟨⟨_, w, h1', h3⟩, fun u H'' hy => ?_⟩
    obtain ⟨rfl, hy⟩ := hy
    have := hy _ h1'
    rw [h3] at this
    cases this
    exact ⟨m', Ext.refl, s, h4⟩
  · rename_i hx
    exact ⟨_, h1', by rw [← h2'.len]; exact List.getElem?_eq_none_iff.mp hx⟩
theorem itr_str {z : Str} : ItR N K m H (itS z) (Its z) := fun m' S H' i e s => by
  show YdR N K m' H' (Its z) i (match z.cps[i]? with
    | some c => .yld (.str ⟨#[c]⟩) S
    | none => .stop)
  split
  · rename_i c hx
    refine ⟨(Array.getElem?_eq_some_iff.mp hx).1, fun u H'' hy => ?_⟩
    obtain ⟨rfl, c', hc, rfl⟩ := hy
    rw [hx] at hc
    cases hc
    exact ⟨m', Ext.refl, s, .str _⟩
  · rename_i hx
    exact Array.getElem?_eq_none_iff.mp hx
theorem itr_rng {lo : Int} {n : Nat} : ItR N K m H (itR lo n) (Itr lo n) := fun m' S H' i e s => by
  show YdR N K m' H' (Itr lo n) i (if i < n then .yld (.int (lo + (i : Nat))) S else .stop)
  split
  · rename_i hx
    refine ⟨hx, fun u H'' hy => ?_⟩
    obtain ⟨rfl, rfl⟩ := hy
    exact ⟨m', Ext.refl, s, .int _⟩
  · rename_i hx
    exact Nat.le_of_not_lt hx
end
section
variable {N : Nms} {X : Cx} {W : L2.St → XK} {e a b c tg : Expr} {fa fb : XE'} {f : XA} {pos p : Pos}
theorem pi_or {iter : Expr} {t u : TI} (h1 : PI X tg iter t) (h2 : PI X tg iter u) : PI X tg iter (fun σ H R => t σ H R ∨ u σ H R) := ⟨fun pins s σ H R I h => by
  rcases h with h | h
  · exact h1.run pins s σ H R I h
  · exact h2.run pins s σ H R I h⟩
theorem si_any (ha : SE N X W a fa) : SI N X W tg a (iAny fa) := by
  obtain ⟨ta, p1, s1⟩ := ha.ex
  refine ⟨_, pi_or (pi_list p1) (pi_or (pi_tup p1) (pi_str p1)), fun m S H env σ R s er h => ?_⟩
  have h' : Post N X.K (ItR N X.K) m H R (W σ) ((fa env S).bind vIter) := h
  cases q : fa env S with
  | ok x S1 =>
    rw [q] at h'
    have h2 : Post N X.K (ItR N X.K) m H R (W σ) (vIter x S1) := h'
    have go : ∀ (P : V → Hp → Prop), (∀ m' H' u, Ext X.K m H m' H' → SR N X.K m' S1 H' → Vr N X.K m' H' x u → P u H') → ta σ H P := fun P hP => s1 m S H env σ P s er (by rw [q]; exact hP)
    unfold vIter at h2
    split at h2
    · refine .inr (.inl (go _ fun m' H' u e' s' r' => ?_))
      obtain ⟨a', ys, rfl, h3, h4⟩ := r'.asT rfl
      exact ⟨a', rfl, ⟨ys, h3⟩, h2.to e' s' (itr_tup h3 h4)⟩
    · refine .inr (.inl (go _ fun m' H' u e' s' r' => ?_))
      obtain ⟨a', ys, rfl, h3, h4⟩ := r'.asT rfl
      exact ⟨a', rfl, ⟨ys, h3⟩, h2.to e' s' (itr_tup h3 h4)⟩
    · refine .inl (go _ fun m' H' u e' s' r' => ?_)
      obtain ⟨a', rfl, h3⟩ := r'.scr'
      exact ⟨a', rfl, ⟨_, h3.l⟩, h2.to e' s' (itr_scr h3)⟩
    · refine .inr (.inr (go _ fun m' H' u e' s' r' => ?_))
      cases r'
      exact ⟨_, rfl, h2.to e' s' itr_str⟩
    · rename_i j
      split at h2
      · rename_i xs hS
        refine .inl (go _ fun m' H' u e' s' r' => ?_)
        obtain ⟨a', rfl, h3⟩ := r'.ref'
        obtain ⟨ys, h4, h5⟩ := s'.lst h3 hS
        exact ⟨a', rfl, ⟨ys, sq_of h4⟩, h2.to e' s' (itr_list h3)⟩
      · exact h2.elim
    · exact h2.elim
  | err c' x' S1 =>
    rw [q] at h'
    exact .inl (s1 m S H env σ _ s er (by rw [q]; exact h'))
  | bad => rw [q] at h'; exact h'.elim
def iRange1 (a : XA) : En → Sto → Out Itm := fun env S => (a env S).bind fun vs S1 => match vs with
  | [.int j] => if -(2 ^ 62) ≤ j ∧ j < 2 ^ 62 then .ok (itR 0 j.toNat) S1 else .bad
  | _ => .bad
def iRange2 (a : XA) : En → Sto → Out Itm := fun env S => (a env S).bind fun vs S1 => match vs with
  | [.int i, .int j] => if -(2 ^ 62) ≤ i ∧ i < 2 ^ 62 ∧ -(2 ^ 62) ≤ j ∧ j < 2 ^ 62 then .ok (itR i (j - i).toNat) S1 else .bad
  | _ => .bad
theorem si_range1 (hg : Gl X "range") (hm : X.mg "range" = none) (ha : SA N X W [a] f) (hs : starEach [a] X.env = [(false, eval a X.env)] := by rfl) : SI N X W tg (.Call (.Name "range" p) [a] [] pos) (iRange1 f) := by
  obtain ⟨ta, p1, s1⟩ := ha.ex
  refine ⟨_, pi_range1 hg hm p1 hs, fun m S H env σ R s er h => s1.step s er h fun vs S1 m1 H1 us e1 sr1 r1 er1 h1 => ?_⟩
  split at h1
  · split at h1
    · rename_i j hj
      obtain ⟨u, ws, rfl, ru, rw'⟩ := r1.cons'
      cases rw'.nil'
      cases ru
      exact ⟨j, rfl, hj.1, hj.2, h1.ok sr1 itr_rng⟩
    · exact h1.elim
  · exact h1.elim
theorem si_range2 (hg : Gl X "range") (hm : X.mg "range" = none) (ha : SA N X W [a, b] f) (hs : starEach [a, b] X.env = [(false, eval a X.env), (false, eval b X.env)] := by rfl) (hs2 : starEach [b] X.env = [(false, eval b X.env)] := by rfl) : SI N X W tg (.Call (.Name "range" p) [a, b] [] pos) (iRange2 f) := by
  obtain ⟨ta, p1, s1⟩ := ha.ex
  refine ⟨_, pi_range2 hg hm p1 hs hs2, fun m S H env σ R s er h => s1.step s er h fun vs S1 m1 H1 us e1 sr1 r1 er1 h1 => ?_⟩
  split at h1
  · split at h1
    · rename_i i j hj
      obtain ⟨u, ws, rfl, ru, rw'⟩ := r1.cons'
      obtain ⟨u2, ws2, rfl, ru2, rw2⟩ := rw'.cons'
      cases rw2.nil'
      cases ru
      cases ru2
      exact ⟨i, j, rfl, hj, h1.ok sr1 itr_rng⟩
    · exact h1.elim
  · exact h1.elim
end
/-! ### the plainest reading -/
def cE {α β : Type} (N : Nms) (K : PySem.W.Frag) (R : List Addr → Hp → α → β → Prop) (W : L2.St → XK) (f : En → Sto → Out α) : L2.St → Hp → (β → Hp → Prop) → Prop := fun σ H Q => ∃ m S env, SR N K m S H ∧ EnR N K m H env σ ∧ Post N K R m H Q (W σ) (f env S)
theorem cE_sim {α β : Type} {N : Nms} {K : PySem.W.Frag} {R : List Addr → Hp → α → β → Prop} {W : L2.St → XK} {f : En → Sto → Out α} : Sim N K R W (cE N K R W f) f := fun m S H env σ Q s er h => ⟨m, S, env, s, er, h⟩
section
variable {N : Nms} {X : Cx} {W : L2.St → XK} {e a b c tg : Expr} {fa fb : XE'} {ft : XT} {f : XA} {pos p : Pos} {fi : En → Sto → Out Itm}
theorem SE.pe (h : SE N X W e fa) : PE X e (cE N X.K (Vr N X.K) W fa) := by
  obtain ⟨t, p, s⟩ := h.ex
  exact ⟨fun pins sh σ H Q I ⟨m, S, env, s1, er, hp⟩ => p.run pins sh σ H Q I (s m S H env σ Q s1 er hp)⟩
theorem ST.pt (h : ST N X W e ft) : PT X e (cE N X.K RvB W ft) := by
  obtain ⟨t, p, s⟩ := h.ex
  exact ⟨fun pins sh σ H Q I ⟨m, S, env, s1, er, hp⟩ => p.run pins sh σ H Q I (s m S H env σ Q s1 er hp)⟩
theorem SI.pi (h : SI N X W tg e fi) : PI X tg e (cE N X.K (ItR N X.K) W fi) := by
  obtain ⟨t, p, s⟩ := h.ex
  exact ⟨fun pins sh σ H Q I ⟨m, S, env, s1, er, hp⟩ => p.run pins sh σ H Q I (s m S H env σ Q s1 er hp)⟩
end
/-! ### comprehensions -/
def wipeE (env : En) : List Nat → En
  | [] => env
  | v :: vs => (wipeE env vs).set v none
theorem EnR.none {N : Nms} {K : PySem.W.Frag} {m : List Addr} {H : Hp} {env : En} {σ : L2.St} (h0 : N.xh = none) (h : EnR N K m H env σ) (i : Nat) : EnR N K m H (env.set i none) (σ.set i none) := by
  refine ⟨by rw [List.length_set, List.length_set]; exact h.len, fun j w q => ?_, fun i a e => by rw [h0] at e; cases e⟩
  rw [List.getElem?_set] at q
  rw [List.getElem?_set]
  split at q
  · split at q <;> cases q
  · rename_i z
    rw [if_neg z]
    exact h.at_ j w q
theorem EnR.wipe {N : Nms} {K : PySem.W.Frag} {m : List Addr} {H : Hp} {env : En} {σ : L2.St} (h0 : N.xh = Option.none) (h : EnR N K m H env σ) : ∀ vs : List Nat, EnR N K m H (wipeE env vs) (L2.wipe σ vs)
  | [] => h
  | v :: vs => EnR.none h0 (EnR.wipe h0 h vs) v
theorem wipe_set {σ : L2.St} {i : Nat} {x : Option V} : ∀ {vs : List Nat}, i ∈ vs → L2.wipe (σ.set i x) vs = L2.wipe σ vs
  | v :: vs, h => by
    unfold L2.wipe
    by_cases q : i ∈ vs
    · rw [wipe_set q]
    · rcases List.mem_cons.mp h with rfl | h
      · have key : ∀ (us : List Nat), i ∉ us → L2.wipe (σ.set i x) us = (L2.wipe σ us).set i x := by
          intro us
          induction us with
          | nil => intro _; rfl
          | cons u us ih =>
            intro hu
            unfold L2.wipe
            rw [ih (fun z => hu (List.mem_cons_of_mem _ z)), List.set_comm]
            exact fun z => hu (z ▸ List.mem_cons_self)
        rw [key vs q, List.set_set]
      · exact absurd h q
theorem wipe_wipe (σ : L2.St) (vs : List Nat) : L2.wipe (L2.wipe σ vs) vs = L2.wipe σ vs := by
  have wz : ∀ us : List Nat, (∀ z ∈ us, z ∈ vs) → L2.wipe (L2.wipe σ vs) us = L2.wipe σ vs := by
    intro us
    induction us with
    | nil => intro _; rfl
    | cons z us ih =>
      intro hz
      show (L2.wipe (L2.wipe σ vs) us).set z none = L2.wipe σ vs
      rw [ih fun y hy => hz y (List.mem_cons_of_mem _ hy)]
      have zin := hz z List.mem_cons_self
      apply List.ext_getElem?
      intro j
      rw [List.getElem?_set]
      split
      · rename_i hj
        subst hj
        split
        · cases qz : (L2.wipe σ vs)[z]? with
          | none => rw [List.getElem?_eq_none_iff] at qz; omega
          | some o =>
            cases o with
            | none => rfl
            | some y => exact absurd zin (wipe_some qz).2
        · rename_i hl
          rw [List.getElem?_eq_none (by omega)]
      · rfl
  exact wz vs fun _ z => z
/-- a target that stores to slots of vs alone -/
def SimGV (N : Nms) (K : PySem.W.Frag) (vs : List Nat) (t : TG) (g : GM) : Prop := ∀ m S H env σ v u (Q : L2.St → Hp → Prop) env' S', SR N K m S H → EnR N K m H env σ → Vr N K m H v u → g v env S = .ok env' S' →
  (∀ m' H' σ', Ext K m H m' H' → SR N K m' S' H' → EnR N K m' H' env' σ' → L2.wipe σ' vs = L2.wipe σ vs → Q σ' H') → t u σ H Q
theorem sgv_name {N : Nms} {K : PySem.W.Frag} {vs : List Nat} {i : Nat} (hi : i ∈ vs) (h0 : N.xh = none := by rfl) : SimGV N K vs (gName i) (gmName i) := fun m S H env σ v u Q env' S' s er r e h => by
  cases e
  exact h m H _ Ext.refl s (er.set (Nms.fr0 h0) r) (wipe_set hi)
def SimGVs (N : Nms) (K : PySem.W.Frag) (vs : List Nat) (t : TGs) (g : GMs) : Prop := ∀ m S H env σ xs us (Q : L2.St → Hp → Prop) env' S', SR N K m S H → EnR N K m H env σ → Vrs N K m H xs us → g xs env S = .ok env' S' →
  (∀ m' H' σ', Ext K m H m' H' → SR N K m' S' H' → EnR N K m' H' env' σ' → L2.wipe σ' vs = L2.wipe σ vs → Q σ' H') → t us σ H Q
theorem sgvs_nil {N : Nms} {K : PySem.W.Frag} {vs : List Nat} : SimGVs N K vs gNil gmsNil := fun m S H env σ xs us Q env' S' s er r e h => by
  cases r with
  | nil => cases e; exact ⟨rfl, h m H _ Ext.refl s er rfl⟩
  | cons _ _ => cases e
theorem sgvs_cons {N : Nms} {K : PySem.W.Frag} {vs : List Nat} {i : Nat} {t : TGs} {g : GMs} (hi : i ∈ vs) (hr : SimGVs N K vs t g) (h0 : N.xh = none := by rfl) : SimGVs N K vs (gCons (gName i) t) (gmsCons (gmName i) g) := fun m S H env σ xs us Q env' S' s er r e h => by
  cases r with
  | nil => cases e
  | cons r0 rr =>
    rename_i x u xs us
    exact ⟨u, us, rfl, hr m S H (env.set i (some x)) _ xs us Q env' S' s (er.set (Nms.fr0 h0) r0) rr e fun m' H' σ' ex sr er' hw => h m' H' σ' ex sr er' (hw.trans (wipe_set hi))⟩
theorem sgv_tup {N : Nms} {K : PySem.W.Frag} {vs : List Nat} {n : Nat} {t : TGs} {g : GMs} (hr : SimGVs N K vs t g) : SimGV N K vs (fun v σ H Q => gTup K n t v σ H Q ∨ gUnl K n t v σ H Q) (gmTup n g) := fun m S H env σ v u Q env' S' s er r e h => by
  unfold gmTup at e
  split at e
  · obtain ⟨a, ys, rfl, h1, h2⟩ := r.asT rfl
    split at e
    · rename_i hl
      exact .inl ⟨a, ys, rfl, h1, by rw [← h2.len]; exact hl, hr m S H env σ _ ys Q env' S' s er h2 e h⟩
    · cases e
  · obtain ⟨a, ys, rfl, h1, h2⟩ := r.asT rfl
    split at e
    · rename_i hl
      exact .inl ⟨a, ys, rfl, h1, by rw [← h2.len]; exact hl, hr m S H env σ _ ys Q env' S' s er h2 e h⟩
    · cases e
  · split at e
    · rename_i hS
      split at e
      · rename_i hl
        obtain ⟨a, rfl, hm⟩ := r.ref'
        obtain ⟨ys, h1, h2⟩ := s.lst hm hS
        exact .inr ⟨a, ys, rfl, sq_of h1, by rw [← h2.len]; exact hl, hr m S H env σ _ ys Q env' S' s er h2 e h⟩
      · cases e
    · cases e
  · cases e
/-- the turns of a comprehension that lays its list at D -/
def compZ (I : Itm) (g : GM) (t : XT) (e : XE') (env : En) (D : Nat) : Nat → Nat → Sto → Out Unit
  | n, i, S => match I.nxt i S with
    | .stop => .ok () S
    | .bad => .bad
    | .yld x S1 => match n with
      | 0 => .bad
      | n + 1 => match g x env S1 with
        | .ok e1 S2 => match t e1 S2 with
          | .ok b S3 => if b = true then match e e1 S3 with
              | .ok y S4 => match S4[D]? with
                | some (.lst acc) => if acc.length < 100000 then compZ I g t e env D n (i + 1) (S4.set D (.lst (acc ++ [y]))) else .bad
                | _ => .bad
              | _ => .bad
            else compZ I g t e env D n (i + 1) S3
          | _ => .bad
        | _ => .bad
theorem compZ_eq {I : Itm} {g : GM} {t : XT} {e : XE'} {env : En} {D n i : Nat} {S : Sto} : compZ I g t e env D n i S = match I.nxt i S with
    | .stop => .ok () S
    | .bad => .bad
    | .yld x S1 => match n with
      | 0 => .bad
      | n + 1 => match g x env S1 with
        | .ok e1 S2 => match t e1 S2 with
          | .ok b S3 => if b = true then match e e1 S3 with
              | .ok y S4 => match S4[D]? with
                | some (.lst acc) => if acc.length < 100000 then compZ I g t e env D n (i + 1) (S4.set D (.lst (acc ++ [y]))) else .bad
                | _ => .bad
              | _ => .bad
            else compZ I g t e env D n (i + 1) S3
          | _ => .bad
        | _ => .bad := by
  cases n <;> rw [compZ]
def xLc (it : En → Sto → Out Itm) (g : GM) (t : XT) (e : XE') (vs : List Nat) : XE' := fun env S => (it env S).bind fun I S1 => (compZ I g t e (wipeE env vs) S1.length I.fuel 0 (S1 ++ [.lst []])).bind fun _ S2 => .ok (.ref S1.length) S2
def yYes : XT := fun _ S => .ok true S
/-- what a comprehension's block has -/
abbrev Cx.bk (X : Cx) (s : Shared) (H : Hp) (scope : Scope) (C : Addr) (cl : List (Str × Addr)) (fp : List Addr) : Cx := X.blk s H scope (compEnvC scope cl C X.env) fp
theorem sim_yes {N : Nms} {K : PySem.W.Frag} {W : L2.St → XK} : Sim N K RvB W tYes yYes := fun m S H env σ Q s er h => h.ok s rfl
section
variable {N : Nms} {X : Cx} {W : L2.St → XK} {elt tg iter : Expr} {ifs : List Expr} {scope : Scope} {own : List (Str × Nat)} {pos : Pos} {fi : En → Sto → Out Itm} {gm : GM} {ft : XT} {fe : XE'} {g : TG}
theorem sim_lc {K : PySem.W.Frag} {wi : TI} {tt : TT} {te : TE} {vs : List Nat} (s0 : Sim N K (ItR N K) W wi fi) (s1 : SimGV N K vs g gm) (s2 : Sim N K RvB (fun _ => E0) tt ft) (s3 : Sim N K (Vr N K) (fun _ => E0) te fe) (h0 : N.xh = none) : Sim N K (Vr N K) W (tLc wi g tt te vs) (xLc fi gm ft fe vs) := fun m S H env σ Q s er h =>
  s0.step s er h fun I S1 m1 H1 J e1 sr1 r1 er1 h1 => fun D hD => by
    have sD := sr1.new (o := .lst []) (Same.new hD) hD upd_same (.lst .nil)
    have eD : Ext K m1 H1 (m1 ++ [D]) (upd H1 D (.lst [])) := Ext.app (Same.new hD)
    have mD : (m1 ++ [D])[S1.length]? = some D := by
      have := sr1.ref_new (p := D) (H' := H1)
      cases this with | ref z => exact z
    refine ⟨fun i n H' => ∃ m' S', Ext K (m1 ++ [D]) (upd H1 D (.lst [])) m' H' ∧ SR N K m' S' H' ∧ Post N K (Vr N K) m' H' Q (W σ) ((compZ I gm ft fe (wipeE env vs) S1.length n i S').bind fun _ S2 => .ok (.ref S1.length) S2), ⟨I.fuel, m1 ++ [D], S1 ++ [.lst []], Ext.refl, sD, Post.mono eD h1⟩, ?_⟩
    rintro i n H' ⟨m', S', e', s', h'⟩
    rw [compZ_eq] at h'
    have hJ := r1 m' S' H' i (eD.trans e') s'
    cases q : I.nxt i S' with
    | stop =>
      rw [q] at h' hJ
      exact .inl ⟨hJ, h'.ok s' (.ref (e'.pre _ _ mD))⟩
    | bad => rw [q] at h'; exact h'.elim
    | yld x S2 =>
      rw [q] at h' hJ
      cases n with
      | zero => exact h'.elim
      | succ n =>
        refine .inr ⟨hJ.1, fun H'' => ∃ m' S', Ext K (m1 ++ [D]) (upd H1 D (.lst [])) m' H'' ∧ SR N K m' S' H'' ∧ Post N K (Vr N K) m' H'' Q (W σ) ((compZ I gm ft fe (wipeE env vs) S1.length n (i + 1) S').bind fun _ S2 => .ok (.ref S1.length) S2), fun H'' z => ⟨n, Nat.lt_succ_self n, z⟩, fun u H2 hy => ?_⟩
        obtain ⟨m2, e2, s2', r2⟩ := hJ.2 u H2 hy
        have h2 := Post.mono e2 h'
        have er2 : EnR N K m2 H2 (wipeE env vs) (L2.wipe σ vs) := EnR.wipe h0 ((er1.mono (eD.trans e')).mono e2) vs
        dsimp only at h2
        cases q3 : gm x (wipeE env vs) S2 with
        | err c' x' S3 => rw [q3] at h2; exact h2.elim
        | bad => rw [q3] at h2; exact h2.elim
        | ok env3 S3 =>
          rw [q3] at h2
          dsimp only at h2
          refine s1 m2 S2 H2 (wipeE env vs) (L2.wipe σ vs) x u _ env3 S3 s2' er2 r2 q3 fun m3 H3 σ3 e3 s3' er3 hw => ⟨hw.trans (wipe_wipe σ vs), ?_⟩
          have h3 := Post.mono e3 h2
          refine s2 m3 S3 H3 env3 σ3 _ s3' er3 ?_
          cases q4 : ft env3 S3 with
          | ok b S4 =>
            rw [q4] at h3
            intro m4 H4 b' e4 s4 rb
            cases rb
            have h4 := Post.mono e4 h3
            dsimp only at h4
            cases b with
            | true =>
              rw [if_pos rfl] at h4 ⊢
              refine s3 m4 S4 H4 env3 σ3 _ s4 (er3.mono e4) ?_
              cases q5 : fe env3 S4 with
              | ok y S5 =>
                rw [q5] at h4
                intro m5 H5 uy e5 s5 ry
                have h5 := Post.mono e5 h4
                dsimp only at h5
                cases q6 : S5[S1.length]? with
                | none => rw [q6] at h5; exact h5.elim
                | some o =>
                  cases o with
                  | lst acc =>
                    rw [q6] at h5
                    dsimp only at h5
                    have mD5 := (((((e'.trans e2).trans e3).trans e4).trans e5).pre _ _ mD)
                    obtain ⟨ys, k1, k2⟩ := s5.lst mD5 q6
                    split at h5
                    · rename_i hl
                      have ex : Ext K m5 H5 m5 (upd H5 D (.lst (ys ++ [uy]))) := Ext.upd k1 trivial
                      exact ⟨ys, k1, sz_lt (by rw [← k2.len]; exact hl), m5, _, ((((e'.trans e2).trans e3).trans e4).trans e5).trans ex, s5.set mD5 k1 trivial (.lst (k2.append (.cons ry .nil))), Post.mono ex h5⟩
                    · exact h5.elim
                  | _ => rw [q6] at h5; exact h5.elim
              | err c' x' S5 => rw [q5] at h4; exact h4.elim
              | bad => rw [q5] at h4; exact h4.elim
            | false =>
              rw [if_neg Bool.false_ne_true] at h4 ⊢
              exact ⟨m4, S4, ((e'.trans e2).trans e3).trans e4, s4, h4⟩
          | err c' x' S4 => rw [q4] at h3; exact h3.elim
          | bad => rw [q4] at h3; exact h3.elim
theorem se_lc (hc : X.calm = true) (hN : X.N.Nodup) (hi : SI N X W tg iter fi) (ok : BlkOk X.N X.env.scope scope own) (hgv : SimGV N X.K (own.map (·.2)) g gm)
    (hg : ∀ (s : Shared) (H : Hp) (C : Addr) (cl : List (Str × Addr)) (fp : List Addr), PG (X.blk s H scope (compEnvC scope cl C X.env) fp) tg g) (he : ∀ (s : Shared) (H : Hp) (C : Addr) (cl : List (Str × Addr)) (fp : List Addr), SE N (X.blk s H scope (compEnvC scope cl C X.env) fp) (fun _ => E0) elt fe)
    (hs : ∀ x, foldedSetIterable iter X.env x = pure x := by intro _; rfl) (h0 : N.xh = none := by rfl) : SE N X W (.ListComp elt [⟨tg, iter, [], 0⟩] scope pos) (xLc fi gm yYes fe (own.map (·.2))) := by
  obtain ⟨wi, p0, s0⟩ := hi.ex
  exact ⟨_, pe_lc hc hN p0 ok hg (fun _ _ _ _ _ => pts_nil) (fun s H C cl fp => (he s H C cl fp).pe) hs, sim_lc s0 hgv sim_yes cE_sim h0⟩
theorem se_lcIf {cond : Expr} (hc : X.calm = true) (hN : X.N.Nodup) (hi : SI N X W tg iter fi) (ok : BlkOk X.N X.env.scope scope own) (hgv : SimGV N X.K (own.map (·.2)) g gm)
    (hg : ∀ (s : Shared) (H : Hp) (C : Addr) (cl : List (Str × Addr)) (fp : List Addr), PG (X.blk s H scope (compEnvC scope cl C X.env) fp) tg g) (ht : ∀ (s : Shared) (H : Hp) (C : Addr) (cl : List (Str × Addr)) (fp : List Addr), ST N (X.blk s H scope (compEnvC scope cl C X.env) fp) (fun _ => E0) cond ft)
    (he : ∀ (s : Shared) (H : Hp) (C : Addr) (cl : List (Str × Addr)) (fp : List Addr), SE N (X.blk s H scope (compEnvC scope cl C X.env) fp) (fun _ => E0) elt fe)
    (hs : ∀ x, foldedSetIterable iter X.env x = pure x := by intro _; rfl) (h0 : N.xh = none := by rfl) : SE N X W (.ListComp elt [⟨tg, iter, [cond], 0⟩] scope pos) (xLc fi gm ft fe (own.map (·.2))) := by
  obtain ⟨wi, p0, s0⟩ := hi.ex
  exact ⟨_, pe_lc hc hN p0 ok hg (fun s H C cl fp => pts_one (ht s H C cl fp).pt) (fun s H C cl fp => (he s H C cl fp).pe) hs, sim_lc s0 hgv cE_sim cE_sim h0⟩
/-- name = [..] on one line, the name a local -/
theorem ss_setLc {i : Nat} {y : Str} {py spos : Pos} (hc : X.calm = true) (hN : X.N.Nodup) (hi : SI N X W tg iter fi) (ok : BlkOk X.N X.env.scope scope own) (hgv : SimGV N X.K (own.map (·.2)) g gm)
    (hg : ∀ (s : Shared) (H : Hp) (C : Addr) (cl : List (Str × Addr)) (fp : List Addr), PG (X.blk s H scope (compEnvC scope cl C X.env) fp) tg g) (he : ∀ (s : Shared) (H : Hp) (C : Addr) (cl : List (Str × Addr)) (fp : List Addr), SE N (X.blk s H scope (compEnvC scope cl C X.env) fp) (fun _ => E0) elt fe)
    (hy : X.N[i]? = some y) (hyl : X.env.scope.names.lookup y = some .local) (hsw : swapsWith (.ListComp elt [⟨tg, iter, [], 0⟩] scope pos) (some (.Name y py)) spos.line X.env = pure true)
    (hs : ∀ x, foldedSetIterable iter X.env x = pure x := by intro _; rfl) (h0 : N.xh = none := by rfl) : SS N X W (.Assign [.Name y py] (.ListComp elt [⟨tg, iter, [], 0⟩] scope pos) spos) (zAsg (xLc fi gm yYes fe (own.map (·.2))) (gmName i)) := by
  obtain ⟨wi, p0, s0⟩ := hi.ex
  exact ⟨_, ps_setLc hc hN hy hyl hsw p0 ok hg (fun _ _ _ _ _ => pts_nil) (fun s H C cl fp => (he s H C cl fp).pe) hs, fun m S H env σ D s er h => (sim_lc s0 hgv sim_yes cE_sim h0).stepS s er h fun v S1 m1 H1 u e1 sr1 r1 er1 h1 => h1 m1 H1 _ Ext.refl sr1 (er1.set (Nms.fr0 h0) r1)⟩
theorem ss_setLcIf {i : Nat} {y : Str} {py spos : Pos} {cond : Expr} (hc : X.calm = true) (hN : X.N.Nodup) (hi : SI N X W tg iter fi) (ok : BlkOk X.N X.env.scope scope own) (hgv : SimGV N X.K (own.map (·.2)) g gm)
    (hg : ∀ (s : Shared) (H : Hp) (C : Addr) (cl : List (Str × Addr)) (fp : List Addr), PG (X.blk s H scope (compEnvC scope cl C X.env) fp) tg g) (ht : ∀ (s : Shared) (H : Hp) (C : Addr) (cl : List (Str × Addr)) (fp : List Addr), ST N (X.blk s H scope (compEnvC scope cl C X.env) fp) (fun _ => E0) cond ft)
    (he : ∀ (s : Shared) (H : Hp) (C : Addr) (cl : List (Str × Addr)) (fp : List Addr), SE N (X.blk s H scope (compEnvC scope cl C X.env) fp) (fun _ => E0) elt fe)
    (hy : X.N[i]? = some y) (hyl : X.env.scope.names.lookup y = some .local) (hsw : swapsWith (.ListComp elt [⟨tg, iter, [cond], 0⟩] scope pos) (some (.Name y py)) spos.line X.env = pure true)
    (hs : ∀ x, foldedSetIterable iter X.env x = pure x := by intro _; rfl) (h0 : N.xh = none := by rfl) : SS N X W (.Assign [.Name y py] (.ListComp elt [⟨tg, iter, [cond], 0⟩] scope pos) spos) (zAsg (xLc fi gm ft fe (own.map (·.2))) (gmName i)) := by
  obtain ⟨wi, p0, s0⟩ := hi.ex
  exact ⟨_, ps_setLc hc hN hy hyl hsw p0 ok hg (fun s H C cl fp => pts_one (ht s H C cl fp).pt) (fun s H C cl fp => (he s H C cl fp).pe) hs, fun m S H env σ D s er h => (sim_lc s0 hgv cE_sim cE_sim h0).stepS s er h fun v S1 m1 H1 u e1 sr1 r1 er1 h1 => h1 m1 H1 _ Ext.refl sr1 (er1.set (Nms.fr0 h0) r1)⟩
end
end Nt

namespace Nt
open PySem PySem.Spec PyProof.Rows L2 Evl
/-! ### built-ins -/
def vLen (vs : List Vl) (S : Sto) : Out Vl := match vs with
  | [.tup xs] => .ok (.int xs.length) S
  | [.ktp xs] => .ok (.int xs.length) S
  | [.scr ns] => .ok (.int ns.length) S
  | [.str z] => if z.length ≤ 100000 then .ok (.int z.length) S else .bad
  | [.ref i] => match S[i]? with
    | some (.lst xs) => .ok (.int xs.length) S
    | some (.dk kvs) => .ok (.int kvs.length) S
    | _ => .bad
  | _ => .bad
def vAbs (vs : List Vl) (S : Sto) : Out Vl := match vs with
  | [.int i] => .ok (.int (if i < 0 then -i else i)) S
  | _ => .bad
/-- a list of numbers -/
def toInts : List Vl → Option (List Int)
  | [] => some []
  | .int i :: r => (toInts r).map (i :: ·)
  | _ => none
def toBools : List Vl → Option (List Bool)
  | [] => some []
  | .bl i :: r => (toBools r).map (i :: ·)
  | _ => none
def vMax (vs : List Vl) (S : Sto) : Out Vl := match vs with
  | [.int i, .int j] => .ok (.int (if j > i then j else i)) S
  | _ => .bad
def vMin (vs : List Vl) (S : Sto) : Out Vl := match vs with
  | [.int i, .int j] => .ok (.int (if j < i then j else i)) S
  | _ => .bad
def vInt (vs : List Vl) (S : Sto) : Out Vl := match vs with
  | [.int i] => .ok (.int i) S
  | [.bl b] => .ok (.int (if b then 1 else 0)) S
  | _ => .bad
def vStr (vs : List Vl) (S : Sto) : Out Vl := match vs with
  | [.int i] => if i.natAbs.log2 < 1920 then .ok (.str (toString i)) S else .bad
  | [.str z] => .ok (.str z) S
  | _ => .bad
def kVl : Key → Vl
  | .inl i => .int i
  | .inr z => .str z
def vList (vs : List Vl) (S : Sto) : Out Vl := match vs with
  | [.tup xs] => .ok (.ref S.length) (S ++ [.lst xs])
  | [.ktp xs] => .ok (.ref S.length) (S ++ [.lst xs])
  | [.scr ns] => .ok (.ref S.length) (S ++ [.lst (ns.map .int)])
  | [.ref i] => match S[i]? with
    | some (.lst xs) => .ok (.ref S.length) (S ++ [.lst xs])
    | some (.dk kvs) => .ok (.ref S.length) (S ++ [.lst (kvs.map fun kv => kVl kv.1)])
    | _ => .bad
  | _ => .bad
def vTuple (vs : List Vl) (S : Sto) : Out Vl := match vs with
  | [.tup xs] => .ok (.tup xs) S
  | [.ref i] => match S[i]? with
    | some (.lst xs) => .ok (.tup xs) S
    | _ => .bad
  | _ => .bad
def vSum (vs : List Vl) (S : Sto) : Out Vl := match vs with
  | [.ref i] => match S[i]? with
    | some (.lst xs) => match toInts xs with
      | some ns => .ok (.int ns.sum) S
      | none => .bad
    | _ => .bad
  | _ => .bad
def vAll (vs : List Vl) (S : Sto) : Out Vl := match vs with
  | [.ref i] => match S[i]? with
    | some (.lst xs) => match toBools xs with
      | some bs => .ok (.bl (bs.all id)) S
      | none => .bad
    | _ => .bad
  | _ => .bad
def vAny (vs : List Vl) (S : Sto) : Out Vl := match vs with
  | [.ref i] => match S[i]? with
    | some (.lst xs) => match toBools xs with
      | some bs => .ok (.bl (bs.any id)) S
      | none => .bad
    | _ => .bad
  | _ => .bad
def insI (x : Int) : List Int → List Int
  | [] => [x]
  | y :: ys => if x ≤ y then x :: y :: ys else y :: insI x ys
def isort : List Int → List Int
  | [] => []
  | x :: xs => insI x (isort xs)
theorem insI_perm (x : Int) : ∀ l : List Int, (insI x l).Perm (x :: l)
  | [] => List.Perm.refl _
  | y :: ys => by
    unfold insI
    split
    · exact List.Perm.refl _
    · exact ((insI_perm x ys).cons y).trans (List.Perm.swap x y ys)
theorem isort_perm : ∀ l : List Int, (isort l).Perm l
  | [] => List.Perm.refl _
  | x :: xs => (insI_perm x (isort xs)).trans ((isort_perm xs).cons x)
theorem insI_mem {x z : Int} {l : List Int} (h : z ∈ insI x l) : z = x ∨ z ∈ l := by
  have := (insI_perm x l).mem_iff.mp h
  exact List.mem_cons.mp this
theorem insI_sorted (x : Int) : ∀ {l : List Int}, l.Pairwise (· ≤ ·) → (insI x l).Pairwise (· ≤ ·)
  | [], _ => List.pairwise_singleton _ _
  | y :: ys, h => by
    unfold insI
    obtain ⟨h1, h2⟩ := List.pairwise_cons.mp h
    split
    · rename_i q
      refine List.pairwise_cons.mpr ⟨fun z hz => ?_, h⟩
      rcases List.mem_cons.mp hz with rfl | hz
      · exact q
      · exact Int.le_trans q (h1 z hz)
    · rename_i q
      refine List.pairwise_cons.mpr ⟨fun z hz => ?_, insI_sorted x h2⟩
      rcases insI_mem hz with rfl | hz
      · omega
      · exact h1 z hz
theorem isort_sorted : ∀ l : List Int, (isort l).Pairwise (· ≤ ·)
  | [] => List.Pairwise.nil
  | x :: xs => insI_sorted x (isort_sorted xs)
theorem isort_one {a l : List Int} (hp : a.Perm l) (ha : a.Pairwise (· ≤ ·)) : a = isort l := PySem.W.ksm_same (hp.trans (isort_perm l).symm) ha (isort_sorted l)
def intKeys : List (Key × Vl) → Option (List Int)
  | [] => some []
  | (.inl i, _) :: r => (intKeys r).map (i :: ·)
  | _ => none
def vSorted (vs : List Vl) (S : Sto) : Out Vl := match vs with
  | [.ref i] => match S[i]? with
    | some (.lst xs) => match toInts xs with
      | some ns => .ok (.ref S.length) (S ++ [.lst ((isort ns).map .int)])
      | none => .bad
    | some (.dk kvs) => match intKeys kvs with
      | some ns => if ns.length < 64 then .ok (.ref S.length) (S ++ [.lst ((isort ns).map .int)]) else .bad
      | none => .bad
    | _ => .bad
  | _ => .bad
section
variable {N : Nms} {K : PySem.W.Frag} {m : List Addr} {H : Hp}
theorem toInts_eq : ∀ {xs : List Vl} {ns : List Int}, toInts xs = some ns → xs = ns.map .int
  | [], _, e => by cases e; rfl
  | x :: xs, ns, e => by
    cases x with
    | int i =>
      cases q : toInts xs with
      | none => simp only [toInts, q] at e; cases e
      | some l =>
        simp only [toInts, q] at e
        cases e
        rw [toInts_eq q]
        rfl
    | _ => cases e
theorem toBools_ok : ∀ {xs : List Vl} {us : List V} {ns : List Bool}, toBools xs = some ns → Vrs N K m H xs us → us = ns.map .bl
  | [], _, _, e, .nil => by cases e; rfl
  | x :: xs, _, ns, e, .cons h r => by
    cases x with
    | bl i =>
      cases q : toBools xs with
      | none => simp only [toBools, q] at e; cases e
      | some l =>
        simp only [toBools, q] at e
        cases e
        cases h
        rw [toBools_ok q r]
        rfl
    | _ => cases e
theorem intKeys_ok : ∀ {xs : List (Key × Vl)} {us : List (Key × V)} {ns : List Int}, intKeys xs = some ns → KR N K m H xs us → us.map (·.1) = ns.map Sum.inl
  | [], _, _, e, .nil => by cases e; rfl
  | (k, x) :: xs, _, ns, e, .cons h r => by
    cases k with
    | inl i =>
      cases q : intKeys xs with
      | none => simp only [intKeys, q] at e; cases e
      | some l =>
        simp only [intKeys, q] at e
        cases e
        rw [List.map_cons, intKeys_ok q r]
        rfl
    | inr _ => cases e
theorem keys_ok : ∀ {xs : List (Key × Vl)} {us : List (Key × V)}, KR N K m H xs us → Vrs N K m H (xs.map fun kv => kVl kv.1) (us.map fun kv => kV kv.1)
  | _, _, .nil => .nil
  | (k, _) :: _, _, .cons h r => .cons (by cases k; exact .int _; exact .str _) (keys_ok r)
theorem Vrs.one {x : Vl} {us : List V} (r : Vrs N K m H [x] us) : ∃ u, us = [u] ∧ Vr N K m H x u := by
  obtain ⟨u, ws, rfl, h1, h2⟩ := r.cons'
  cases h2.nil'
  exact ⟨u, rfl, h1⟩
theorem Vrs.two {x y : Vl} {us : List V} (r : Vrs N K m H [x, y] us) : ∃ u w, us = [u, w] ∧ Vr N K m H x u ∧ Vr N K m H y w := by
  obtain ⟨u, ws, rfl, h1, h2⟩ := r.cons'
  obtain ⟨w, rfl, h3⟩ := h2.one
  exact ⟨u, w, rfl, h1, h3⟩
end
section
variable {N : Nms} {X : Cx}
theorem cm_len : CallM N X (.builtin "len") vLen := by
  refine ⟨_, call_len.or call_lenD, fun m S H xs us Q E s r h => ?_⟩
  unfold vLen at h
  split at h
  · obtain ⟨u, rfl, ru⟩ := r.one
    obtain ⟨a, ys, rfl, h1, h2⟩ := ru.asT rfl
    rw [h2.len] at h
    exact .inl ⟨_, _, rfl, .inr ⟨ys, h1, rfl⟩, h.ok s (.int _)⟩
  · obtain ⟨u, rfl, ru⟩ := r.one
    obtain ⟨a, ys, rfl, h1, h2⟩ := ru.asT rfl
    rw [h2.len] at h
    exact .inl ⟨_, _, rfl, .inr ⟨ys, h1, rfl⟩, h.ok s (.int _)⟩
  · obtain ⟨u, rfl, ru⟩ := r.one
    obtain ⟨a, rfl, h1⟩ := ru.scr'
    exact .inl ⟨_, _, rfl, .inl ⟨_, h1.l, rfl⟩, by rw [List.length_map]; exact h.ok s (.int _)⟩
  · split at h
    · rename_i hl
      obtain ⟨u, rfl, ru⟩ := r.one
      cases ru
      exact .inl ⟨_, _, rfl, ⟨sz_of hl, rfl⟩, h.ok s (.int _)⟩
    · exact h.elim
  · obtain ⟨u, rfl, ru⟩ := r.one
    obtain ⟨a, rfl, h1⟩ := ru.ref'
    split at h
    · rename_i hS
      obtain ⟨ys, h2, h3⟩ := s.lst h1 hS
      rw [h3.len] at h
      exact .inl ⟨_, _, rfl, .inl ⟨ys, sq_of h2, rfl⟩, h.ok s (.int _)⟩
    · rename_i hS
      obtain ⟨ys, h2, h3⟩ := s.dk h1 hS
      rw [h3.len] at h
      exact .inr ⟨a, ys, rfl, h2, h.ok s (.int _)⟩
    · exact h.elim
  · exact h.elim
theorem cm_abs : CallM N X (.builtin "abs") vAbs := by
  refine ⟨_, call_abs, fun m S H xs us Q E s r h => ?_⟩
  unfold vAbs at h
  split at h
  · obtain ⟨u, rfl, ru⟩ := r.one
    cases ru
    exact ⟨_, rfl, h.ok s (.int _)⟩
  · exact h.elim
theorem cm_max (hc : X.calm = true) : CallM N X (.builtin "max") vMax := by
  refine ⟨_, call_max2 hc, fun m S H xs us Q E s r h => ?_⟩
  unfold vMax at h
  split at h
  · obtain ⟨u, w, rfl, ru, rw'⟩ := r.two
    cases ru; cases rw'
    exact ⟨_, _, rfl, h.ok s (.int _)⟩
  · exact h.elim
theorem cm_min (hc : X.calm = true) : CallM N X (.builtin "min") vMin := by
  refine ⟨_, call_min2 hc, fun m S H xs us Q E s r h => ?_⟩
  unfold vMin at h
  split at h
  · obtain ⟨u, w, rfl, ru, rw'⟩ := r.two
    cases ru; cases rw'
    exact ⟨_, _, rfl, h.ok s (.int _)⟩
  · exact h.elim
theorem cm_int : CallM N X (.type "int") vInt := by
  refine ⟨_, call_int1, fun m S H xs us Q E s r h => ?_⟩
  unfold vInt at h
  split at h
  · obtain ⟨u, rfl, ru⟩ := r.one
    cases ru
    exact .inl ⟨_, rfl, h.ok s (.int _)⟩
  · obtain ⟨u, rfl, ru⟩ := r.one
    cases ru
    exact .inr ⟨_, rfl, h.ok s (.int _)⟩
  · exact h.elim
theorem cm_str : CallM N X (.type "str") vStr := by
  refine ⟨_, call_strA, fun m S H xs us Q E s r h => ?_⟩
  unfold vStr at h
  split at h
  · split at h
    · rename_i hl
      obtain ⟨u, rfl, ru⟩ := r.one
      cases ru
      exact .inl ⟨_, rfl, hl, h.ok s (.str _)⟩
    · exact h.elim
  · obtain ⟨u, rfl, ru⟩ := r.one
    cases ru
    exact .inr ⟨_, rfl, h.ok s (.str _)⟩
  · exact h.elim
theorem cm_list (hc : X.calm = true) : CallM N X (.type "list") vList := by
  refine ⟨_, call_list_of.or (call_listD hc), fun m S H xs us Q E s r h => ?_⟩
  unfold vList at h
  split at h
  · obtain ⟨u, rfl, ru⟩ := r.one
    obtain ⟨a, ys, rfl, h1, h2⟩ := ru.asT rfl
    exact .inl ⟨a, ys, rfl, .inr h1, fun l hl => h.to (Ext.app (Same.new hl)) (s.new (Same.new hl) hl upd_same (.lst h2)) s.ref_new⟩
  · obtain ⟨u, rfl, ru⟩ := r.one
    obtain ⟨a, ys, rfl, h1, h2⟩ := ru.asT rfl
    exact .inl ⟨a, ys, rfl, .inr h1, fun l hl => h.to (Ext.app (Same.new hl)) (s.new (Same.new hl) hl upd_same (.lst h2)) s.ref_new⟩
  · obtain ⟨u, rfl, ru⟩ := r.one
    obtain ⟨a, rfl, h1⟩ := ru.scr'
    exact .inl ⟨a, _, rfl, .inl h1.l, fun l hl => h.to (Ext.app (Same.new hl)) (s.new (Same.new hl) hl upd_same (.lst (Vrs.ofInts _))) s.ref_new⟩
  · obtain ⟨u, rfl, ru⟩ := r.one
    obtain ⟨a, rfl, h1⟩ := ru.ref'
    split at h
    · rename_i hS
      obtain ⟨ys, h2, h3⟩ := s.lst h1 hS
      exact .inl ⟨a, ys, rfl, .inl (sq_of h2), fun l hl => h.to (Ext.app (Same.new hl)) (s.new (Same.new hl) hl upd_same (.lst h3)) s.ref_new⟩
    · rename_i hS
      obtain ⟨ys, h2, h3⟩ := s.dk h1 hS
      exact .inr ⟨a, ys, rfl, .inl h2, fun l hl => h.to (Ext.app (Same.new hl)) (s.new (Same.new hl) hl upd_same (.lst (keys_ok h3))) s.ref_new⟩
    · exact h.elim
  · exact h.elim
theorem cm_tuple : CallM N X (.type "tuple") vTuple := by
  refine ⟨_, call_tuple_of, fun m S H xs us Q E s r h => ?_⟩
  unfold vTuple at h
  split at h
  · obtain ⟨u, rfl, ru⟩ := r.one
    obtain ⟨a, ys, rfl, h1, h2⟩ := ru.tup'
    exact ⟨a, ys, rfl, .inr ⟨st_of h1, h.ok s (.tup h1 h2)⟩⟩
  · obtain ⟨u, rfl, ru⟩ := r.one
    obtain ⟨a, rfl, h1⟩ := ru.ref'
    split at h
    · rename_i hS
      obtain ⟨ys, h2, h3⟩ := s.lst h1 hS
      refine ⟨a, ys, rfl, .inl ⟨sq_of h2, fun l hl => ?_⟩⟩
      have ex : Ext X.K m H m (upd H l (.tup ys)) := Ext.same (Same.new hl)
      exact h.to ex (s.same (Same.new hl)) (.tup upd_same (h3.mono ex))
    · exact h.elim
  · exact h.elim
theorem cm_sum (hc : X.calm = true) : CallM N X (.builtin "sum") vSum := by
  refine ⟨_, cr_sum hc, fun m S H xs us Q E s r h => ?_⟩
  unfold vSum at h
  split at h
  · obtain ⟨u, rfl, ru⟩ := r.one
    obtain ⟨a, rfl, h1⟩ := ru.ref'
    split at h
    · rename_i hS
      split at h
      · rename_i ns hn
        obtain ⟨ys, h2, h3⟩ := s.lst h1 hS
        rw [toInts_eq hn] at h3
        rw [h3.ints] at h2
        exact ⟨a, ns, rfl, sq_of h2, h.ok s (.int _)⟩
      · exact h.elim
    · exact h.elim
  · exact h.elim
theorem cm_all (hc : X.calm = true) : CallM N X (.builtin "all") vAll := by
  refine ⟨_, cr_all hc, fun m S H xs us Q E s r h => ?_⟩
  unfold vAll at h
  split at h
  · obtain ⟨u, rfl, ru⟩ := r.one
    obtain ⟨a, rfl, h1⟩ := ru.ref'
    split at h
    · rename_i hS
      split at h
      · rename_i ns hn
        obtain ⟨ys, h2, h3⟩ := s.lst h1 hS
        rw [toBools_ok hn h3] at h2
        exact ⟨a, ns, rfl, sq_of h2, h.ok s (.bl _)⟩
      · exact h.elim
    · exact h.elim
  · exact h.elim
theorem cm_any (hc : X.calm = true) : CallM N X (.builtin "any") vAny := by
  refine ⟨_, cr_any hc, fun m S H xs us Q E s r h => ?_⟩
  unfold vAny at h
  split at h
  · obtain ⟨u, rfl, ru⟩ := r.one
    obtain ⟨a, rfl, h1⟩ := ru.ref'
    split at h
    · rename_i hS
      split at h
      · rename_i ns hn
        obtain ⟨ys, h2, h3⟩ := s.lst h1 hS
        rw [toBools_ok hn h3] at h2
        exact ⟨a, ns, rfl, sq_of h2, h.ok s (.bl _)⟩
      · exact h.elim
    · exact h.elim
  · exact h.elim
theorem cm_sorted (hc : X.calm = true) : CallM N X (.builtin "sorted") vSorted := by
  refine ⟨_, cr_sortedI.or (call_sortedDI hc), fun m S H xs us Q E s r h => ?_⟩
  unfold vSorted at h
  split at h
  · obtain ⟨u, rfl, ru⟩ := r.one
    obtain ⟨a, rfl, h1⟩ := ru.ref'
    split at h
    · rename_i hS
      split at h
      · rename_i ns hn
        obtain ⟨ys, h2, h3⟩ := s.lst h1 hS
        rw [toInts_eq hn] at h3
        rw [h3.ints] at h2
        refine .inl ⟨a, ns, rfl, sq_of h2, fun ns' l hp ho hl => ?_⟩
        rw [isort_one hp ho]
        exact h.to (Ext.app (Same.new hl)) (s.new (Same.new hl) hl upd_same (.lst (Vrs.ofInts _))) s.ref_new
      · exact h.elim
    · rename_i hS
      split at h
      · rename_i ns hn
        split at h
        · rename_i h64
          obtain ⟨ys, h2, h3⟩ := s.dk h1 hS
          refine .inr ⟨a, ys, ns, rfl, .inl h2, intKeys_ok hn h3, h64, fun ns' l hp ho hl => ?_⟩
          rw [isort_one hp ho]
          exact h.to (Ext.app (Same.new hl)) (s.new (Same.new hl) hl upd_same (.lst (Vrs.ofInts _))) s.ref_new
        · exact h.elim
      · exact h.elim
    · exact h.elim
  · exact h.elim
end
/-! ### isinstance by built-in types -/
def tyV' (S : Sto) : Vl → Option String
  | .non => some "NoneType"
  | .bl _ => some "bool"
  | .int _ => some "int"
  | .str _ => some "str"
  | .tup _ => some "tuple"
  | .ktp _ => some "tuple"
  | .ref i => match S[i]? with
    | some (.lst _) => some "list"
    | some (.dk _) => some "dict"
    | some (.dt _) => some "dict"
    | _ => none
  | _ => none
def isSub (t n : String) : Bool := t == n || (t == "bool" && n == "int")
def vIsi (vs : List Vl) (S : Sto) : Out Vl := match vs with
  | [x, .ty n] => match tyV' S x with
    | some t => if (["int", "bool", "str", "tuple", "list"] : List String).contains n then .ok (.bl (isSub t n)) S else .bad
    | none => .bad
  | _ => .bad
theorem kit_all : ∀ t ∈ (["NoneType", "bool", "int", "str", "tuple", "list", "dict"] : List String), ∀ n ∈ (["int", "bool", "str", "tuple", "list"] : List String), kitB t n = some (isSub t n) := by
  intro t ht n hn
  simp only [List.mem_cons, List.not_mem_nil, or_false] at ht hn
  rcases ht with rfl | rfl | rfl | rfl | rfl | rfl | rfl <;> rcases hn with rfl | rfl | rfl | rfl | rfl <;> kernel_rfl
section
variable {N : Nms} {X : Cx}
theorem tyV_ok {K : PySem.W.Frag} {m : List Addr} {S : Sto} {H : Hp} {x : Vl} {u : V} {t : String} (s : SR N K m S H) (r : Vr N K m H x u) (e : tyV' S x = some t) : TyX K H u (.type t) ∧ t ∈ (["NoneType", "bool", "int", "str", "tuple", "list", "dict"] : List String) := by
  cases x with
  | non => cases e; cases r; exact ⟨.base .non, by decide⟩
  | bl _ => cases e; cases r; exact ⟨.base (.bl _), by decide⟩
  | int _ => cases e; cases r; exact ⟨.base (.int _), by decide⟩
  | str _ => cases e; cases r; exact ⟨.base (.str _), by decide⟩
  | tup _ => cases e; obtain ⟨a, ys, rfl, h1, _⟩ := r.tup'; exact ⟨.base (.tup h1), by decide⟩
  | ktp _ =>
    cases e
    obtain ⟨a, ys, rfl, h1, _⟩ := r.asT rfl
    refine ⟨?_, by decide⟩
    rcases h1 with (q | ⟨o, q⟩) | ⟨o, its, n, h1, h2, _⟩
    · exact .base (.tup q)
    · exact .fTuple q
    · exact .kTuple h1 h2
  | ref i =>
    obtain ⟨a, rfl, hm⟩ := r.ref'
    simp only [tyV'] at e
    split at e
    · rename_i hS; cases e; obtain ⟨ys, h1, _⟩ := s.lst hm hS; exact ⟨.base (.lst h1), by decide⟩
    · rename_i hS; cases e; obtain ⟨ys, h1, _⟩ := s.dk hm hS; exact ⟨.base (.dK h1), by decide⟩
    · rename_i hS; cases e; obtain ⟨ys, h1, _⟩ := s.dt hm hS; exact ⟨.base (.dT h1), by decide⟩
    · cases e
  | _ => cases e
theorem cm_isi : CallM N X (.builtin "isinstance") vIsi := by
  refine ⟨_, call_isi, fun m S H xs us Q E s r h => ?_⟩
  unfold vIsi at h
  split at h
  · rename_i x n
    obtain ⟨u, w, rfl, ru, rw'⟩ := r.two
    cases rw'
    split at h
    · rename_i t ht
      split at h
      · rename_i hn
        obtain ⟨h1, h2⟩ := tyV_ok s ru ht
        exact ⟨u, .ty n, _, _, _, rfl, .ty n, h1, kit_ty (kit_all t h2 n (by simpa using hn)), h.ok s (.bl _)⟩
      · exact h.elim
    · exact h.elim
  · exact h.elim
end
end Nt

namespace Nt
open PySem PySem.Spec PyProof.Rows L2 Evl
/-! ### methods of built-in types -/
def tyM (T : String) (x : Vl) (S : Sto) : Bool := match x with
  | .str _ => T == "str"
  | .ref i => match S[i]? with
    | some (.lst _) => T == "list"
    | some (.dk _) => T == "dict"
    | some (.dt _) => T == "dict"
    | _ => false
  | _ => false
theorem tyM_ok {N : Nms} {K : PySem.W.Frag} {m : List Addr} {S : Sto} {H : Hp} {x : Vl} {u : V} {T : String} (s : SR N K m S H) (r : Vr N K m H x u) (e : tyM T x S = true) : L2.tyV K T u H := by
  unfold tyM at e
  split at e
  · cases r; exact eq_of_beq e
  · obtain ⟨a, rfl, hm⟩ := r.ref'
    split at e
    · rename_i hS; obtain ⟨ys, h1, _⟩ := s.lst hm hS; exact .inl ⟨eq_of_beq e, _, sq_of h1⟩
    · rename_i hS; obtain ⟨ys, h1, _⟩ := s.dk hm hS; exact .inr (.inr (.inl ⟨eq_of_beq e, .inl ⟨_, h1⟩⟩))
    · rename_i hS; obtain ⟨ys, h1, _⟩ := s.dt hm hS; exact .inr (.inr (.inl ⟨eq_of_beq e, .inr ⟨_, h1⟩⟩))
    · cases e
  · cases e
def xBM (T : String) (g : Vl → List Vl → Sto → Out Vl) (o : XE') (a : XA) : XE' := fun env S => (o env S).bind fun x S1 => if tyM T x S1 = true then (a env S1).bind fun xs S2 => g x xs S2 else .bad
def MtS (N : Nms) (K : PySem.W.Frag) (r : V → List V → Hp → VK → Prop) (g : Vl → List Vl → Sto → Out Vl) : Prop := ∀ m S H x xs u us Q E, SR N K m S H → Vr N K m H x u → Vrs N K m H xs us → Post N K (Vr N K) m H Q E (g x xs S) → r u us H Q
structure MtMM (N : Nms) (X : Cx) (id : String) (g : Vl → List Vl → Sto → Out Vl) : Prop where
  ex : ∃ r, MtR X id r ∧ MtS N X.K r g
section
variable {N : Nms} {X : Cx} {W : L2.St → XK} {o e : Expr} {es : List Expr} {fo : XE'} {fa : XA} {name : Str} {apos cpos : Pos} {T id : String} {g : Vl → List Vl → Sto → Out Vl}
theorem se_bm (hm : MtMM N X id g) (pa : PlainAttrs T) (slot : Slot T name id) (hty : typeOf (.builtin id) = pure (.type "method_descriptor")) (ho : SE N X W o fo) (ha : SA N X W (e :: es) fa)
    (hbase : attributeBase o name X.env (eval o X.env) = eval o X.env := by rfl)
    (hfew : ((backTo cpos (starEach (e :: es) X.env)).all (fun x => !x.1) && (backToKw cpos (keywordEach [] X.env)).all (fun x => x.1.isSome)
      && decide ((e :: es).length + ([] : List Keyword).length + (if ([] : List Keyword).isEmpty then 0 else 1) < 30)) = true := by rfl)
    (hline : (apos.endLine == cpos.line) = true := by rfl) (hs : starEach (e :: es) X.env = (false, eval e X.env) :: starEach es X.env := by rfl) (hplain : (backTo cpos (starEach es X.env)).any (·.1) = false := by rfl) :
    SE N X W (.Call (.Attribute o name apos) (e :: es) [] cpos) (xBM T g fo fa) := by
  obtain ⟨r, h1, h2⟩ := hm.ex
  obtain ⟨t0, p0, s0⟩ := ho.ex
  obtain ⟨t1, p1, s1⟩ := ha.ex
  refine ⟨_, pe_bm pa slot hty h1 p0 p1 hbase hfew hline hs hplain, fun m S H env σ Q s er h => s0.step s er h fun x S1 m1 H1 u e1 sr1 r1 er1 h1 => ?_⟩
  split at h1
  · rename_i hT
    exact ⟨tyM_ok sr1 r1 hT, s1.step sr1 er1 h1 fun xs S2 m2 H2 us e2 sr2 r2 er2 h3 => h2 m2 S2 H2 x xs u us Q _ sr2 (r1.mono e2) r2 h3⟩
  · exact h1.elim
theorem se_bm0 (hm : MtMM N X id g) (pa : PlainAttrs T) (slot : Slot T name id) (hty : typeOf (.builtin id) = pure (.type "method_descriptor")) (ho : SE N X W o fo)
    (hbase : attributeBase o name X.env (eval o X.env) = eval o X.env := by rfl) (hline : (apos.endLine == cpos.line) = true := by rfl) : SE N X W (.Call (.Attribute o name apos) [] [] cpos) (xBM T g fo aNil) := by
  obtain ⟨r, h1, h2⟩ := hm.ex
  obtain ⟨t0, p0, s0⟩ := ho.ex
  refine ⟨_, pe_bm0 pa slot hty h1 p0 hbase hline, fun m S H env σ Q s er h => s0.step s er h fun x S1 m1 H1 u e1 sr1 r1 er1 h1 => ?_⟩
  split at h1
  · rename_i hT
    exact ⟨tyM_ok sr1 r1 hT, h2 m1 S1 H1 x [] u [] Q _ sr1 r1 .nil h1⟩
  · exact h1.elim
def mAppend (x : Vl) (xs : List Vl) (S : Sto) : Out Vl := match x, xs with
  | .ref i, [y] => match S[i]? with
    | some (.lst l) => if l.length < 100000 then .ok .non (S.set i (.lst (l ++ [y]))) else .bad
    | _ => .bad
  | _, _ => .bad
theorem mm_append : MtMM N X "list.append" mAppend := by
  refine ⟨_, mt_append, fun m S H x xs u us Q E s rx rs h => ?_⟩
  unfold mAppend at h
  split at h
  · obtain ⟨a, rfl, hm⟩ := rx.ref'
    obtain ⟨w, rfl, rw'⟩ := rs.one
    split at h
    · rename_i l hS
      split at h
      · rename_i hl
        obtain ⟨ys, h1, h2⟩ := s.lst hm hS
        exact ⟨a, ys, w, rfl, rfl, h1, sz_lt (by rw [← h2.len]; exact hl), h.to (Ext.upd h1 trivial) (s.set hm h1 trivial (.lst (h2.append (.cons rw' .nil)))) .non⟩
      · exact h.elim
    · exact h.elim
  · exact h.elim
def mReverse (x : Vl) (xs : List Vl) (S : Sto) : Out Vl := match x, xs with
  | .ref i, [] => match S[i]? with
    | some (.lst l) => .ok .non (S.set i (.lst l.reverse))
    | _ => .bad
  | _, _ => .bad
theorem mm_reverse : MtMM N X "list.reverse" mReverse := by
  refine ⟨_, mt_reverse, fun m S H x xs u us Q E s rx rs h => ?_⟩
  unfold mReverse at h
  split at h
  · obtain ⟨a, rfl, hm⟩ := rx.ref'
    cases rs.nil'
    split at h
    · rename_i l hS
      obtain ⟨ys, h1, h2⟩ := s.lst hm hS
      exact ⟨a, ys, rfl, rfl, h1, h.to (Ext.upd h1 trivial) (s.set hm h1 trivial (.lst h2.reverse)) .non⟩
    · exact h.elim
  · exact h.elim
def mPop (x : Vl) (xs : List Vl) (S : Sto) : Out Vl := match x, xs with
  | .ref i, [] => match S[i]? with
    | some (.lst l) => match l[l.length - 1]? with
      | some y => .ok y (S.set i (.lst l.dropLast))
      | none => .bad
    | _ => .bad
  | _, _ => .bad
theorem Vrs.dropLast {K : PySem.W.Frag} {m : List Addr} {H : Hp} {xs : List Vl} {us : List V} (r : Vrs N K m H xs us) : Vrs N K m H xs.dropLast us.dropLast := by
  rw [List.dropLast_eq_take, List.dropLast_eq_take, r.len]
  exact r.take _
theorem mm_pop : MtMM N X "list.pop" mPop := by
  refine ⟨_, mt_pop, fun m S H x xs u us Q E s rx rs h => ?_⟩
  unfold mPop at h
  split at h
  · obtain ⟨a, rfl, hm⟩ := rx.ref'
    cases rs.nil'
    split at h
    · rename_i l hS
      split at h
      · rename_i y hy
        obtain ⟨ys, h1, h2⟩ := s.lst hm hS
        obtain ⟨w, h3, h4⟩ := h2.get hy
        have ex : Ext X.K m H m (upd H a (.lst ys.dropLast)) := Ext.upd h1 trivial
        exact ⟨a, ys, w, rfl, rfl, h1, by rw [← h2.len]; exact h3, h.to ex (s.set hm h1 trivial (.lst h2.dropLast)) (h4.mono ex)⟩
      · exact h.elim
    · exact h.elim
  · exact h.elim
def mFind (x : Vl) (xs : List Vl) (S : Sto) : Out Vl := match x, xs with
  | .str a, [.str b] => .ok (.int (PySem.Txt.find a b)) S
  | _, _ => .bad
theorem mm_find : MtMM N X "str.find" mFind := by
  refine ⟨_, mt_find, fun m S H x xs u us Q E s rx rs h => ?_⟩
  unfold mFind at h
  split at h
  · cases rx
    obtain ⟨w, rfl, rw'⟩ := rs.one
    cases rw'
    exact ⟨_, _, rfl, rfl, h.ok s (.int _)⟩
  · exact h.elim
end
/-! ### dicts -/
def isDct (x : Vl) (S : Sto) : Bool := match x with
  | .ref i => match S[i]? with
    | some (.dk _) => true
    | some (.dt _) => true
    | _ => false
  | _ => false
def xGet2 (o k d : XE') : XE' := fun env S => (o env S).bind fun x S1 => if isDct x S1 = true then (k env S1).bind fun y S2 => (d env S2).bind fun z S3 => match x with
  | .ref i => match dGet S3 i y with
    | some r => .ok (r.getD z) S3
    | none => .bad
  | _ => .bad
  else .bad
def xGet1 (o k : XE') : XE' := fun env S => (o env S).bind fun x S1 => if isDct x S1 = true then (k env S1).bind fun y S2 => match x with
  | .ref i => match dGet S2 i y with
    | some r => .ok (r.getD .non) S2
    | none => .bad
  | _ => .bad
  else .bad
section
variable {N : Nms} {X : Cx} {W : L2.St → XK} {o e f : Expr} {fo fe ff : XE'} {apos cpos pos : Pos}
theorem isDct_ok {K : PySem.W.Frag} {m : List Addr} {S : Sto} {H : Hp} {x : Vl} {u : V} (s : SR N K m S H) (r : Vr N K m H x u) (e : isDct x S = true) : ∃ i a, x = .ref i ∧ u = .ref a ∧ m[i]? = some a ∧ IsD H a := by
  unfold isDct at e
  split at e
  · rename_i i
    obtain ⟨a, rfl, hm⟩ := r.ref'
    split at e
    · rename_i hS; obtain ⟨ys, h1, _⟩ := s.dk hm hS; exact ⟨i, a, rfl, rfl, hm, .inl ⟨_, .inl h1⟩⟩
    · rename_i hS; obtain ⟨ys, h1, _⟩ := s.dt hm hS; exact ⟨i, a, rfl, rfl, hm, .inr ⟨_, .inl h1⟩⟩
    · cases e
  · cases e
theorem se_get2 (hu : X.A.units + 64 < cLine) (ho : SE N X W o fo) (he : SE N X W e fe) (hf : SE N X W f ff) (mm : M2 X o "get" apos e f cpos) : SE N X W (.Call (.Attribute o "get" apos) [e, f] [] cpos) (xGet2 fo fe ff) := by
  obtain ⟨t0, p0, s0⟩ := ho.ex
  obtain ⟨t1, p1, s1⟩ := he.ex
  obtain ⟨t2, p2, s2⟩ := hf.ex
  refine ⟨_, pe_dget2 (by omega) p0 p1 p2 mm, fun m S H env σ Q s er h => s0.step s er h fun x S1 m1 H1 u e1 sr1 r1 er1 h1 => ?_⟩
  split at h1
  · rename_i hD
    obtain ⟨i, a, rfl, rfl, hm, hI⟩ := isDct_ok sr1 r1 hD
    refine ⟨a, rfl, hI, s1.step sr1 er1 h1 fun y S2 m2 H2 uy e2 sr2 r2 er2 h2 => ?_⟩
    refine s2.step sr2 er2 h2 fun z S3 m3 H3 uz e3 sr3 r3 er3 h3 => ?_
    dsimp only at h3
    split at h3
    · rename_i r hr
      obtain ⟨o', g, q⟩ := dGet_ok sr3 (e3.pre _ _ (e2.pre _ _ hm)) (r2.mono e3) hr
      refine ⟨o', g, ?_⟩
      cases q with
      | none => exact h3.ok sr3 r3
      | some rr => exact h3.ok sr3 rr
    · exact h3.elim
  · exact h1.elim
theorem se_get1 (hu : X.A.units + 64 < cLine) (ho : SE N X W o fo) (he : SE N X W e fe) (mm : M1 X o "get" apos e cpos) : SE N X W (.Call (.Attribute o "get" apos) [e] [] cpos) (xGet1 fo fe) := by
  obtain ⟨t0, p0, s0⟩ := ho.ex
  obtain ⟨t1, p1, s1⟩ := he.ex
  refine ⟨_, pe_dget1 (by omega) p0 p1 mm, fun m S H env σ Q s er h => s0.step s er h fun x S1 m1 H1 u e1 sr1 r1 er1 h1 => ?_⟩
  split at h1
  · rename_i hD
    obtain ⟨i, a, rfl, rfl, hm, hI⟩ := isDct_ok sr1 r1 hD
    refine ⟨a, rfl, hI, s1.step sr1 er1 h1 fun y S2 m2 H2 uy e2 sr2 r2 er2 h2 => ?_⟩
    dsimp only at h2
    split at h2
    · rename_i r hr
      obtain ⟨o', g, q⟩ := dGet_ok sr2 (e2.pre _ _ hm) r2 hr
      refine ⟨o', g, ?_⟩
      cases q with
      | none => exact h2.ok sr2 .non
      | some rr => exact h2.ok sr2 rr
    · exact h2.elim
  · exact h1.elim
def xDk : XE' := fun _ S => .ok (.ref S.length) (S ++ [.dk []])
def xDt : XE' := fun _ S => .ok (.ref S.length) (S ++ [.dt []])
theorem se_dk : SE N X W (.Dict [] [] pos) xDk := ⟨_, pe_dnewK, fun m S H env σ Q s er h p hp => h.to (Ext.app (Same.new hp)) (s.new (Same.new hp) hp upd_same (.dk .nil)) s.ref_new⟩
theorem se_dt : SE N X W (.Dict [] [] pos) xDt := ⟨_, pe_dnewT, fun m S H env σ Q s er h p hp => h.to (Ext.app (Same.new hp)) (s.new (Same.new hp) hp upd_same (.dt .nil)) s.ref_new⟩
/-! displays: the dict is laid first -/
abbrev XP := En → Sto → Out (List (Vl × Vl))
inductive PR (N : Nms) (K : PySem.W.Frag) (m : List Addr) (H : Hp) : List (Vl × Vl) → List (V × V) → Prop
  | nil : PR N K m H [] []
  | cons {x y : Vl} {u w : V} {l : List (Vl × Vl)} {l' : List (V × V)} : Vr N K m H x u → Vr N K m H y w → PR N K m H l l' → PR N K m H ((x, y) :: l) ((u, w) :: l')
structure SP' (N : Nms) (X : Cx) (W : L2.St → XK) (pos : Pos) (ks : List (Option Expr)) (vs : List Expr) (f : XP) : Prop where
  ex : ∃ t, PPs X pos ks vs t ∧ Sim N X.K (PR N X.K) W (tPairs t) f
def pNil : XP := fun _ S => .ok [] S
def pCons (a b : XE') (r : XP) : XP := fun env S => (a env S).bind fun x S1 => (b env S1).bind fun y S2 => (r env S2).bind fun l S3 => .ok ((x, y) :: l) S3
theorem sp_nil : SP' N X W pos [] [] pNil := ⟨_, pps_nil, fun m S H env σ Q s er h => h.ok s .nil⟩
theorem sp_cons {k v : Expr} {ks : List (Option Expr)} {vs : List Expr} {fk fv : XE'} {r : XP} (hk : SE N X W k fk) (hv : SE N X W v fv) (hr : SP' N X W pos ks vs r) : SP' N X W pos (some k :: ks) (v :: vs) (pCons fk fv r) := by
  obtain ⟨t0, p0, s0⟩ := hk.ex
  obtain ⟨t1, p1, s1⟩ := hv.ex
  obtain ⟨t2, p2, s2⟩ := hr.ex
  refine ⟨_, pps_cons p0 p1 p2, fun m S H env σ Q s er h => s0.step s er h fun x S1 m1 H1 u e1 sr1 r1 er1 h1 => ?_⟩
  refine s1.step sr1 er1 h1 fun y S2 m2 H2 w e2 sr2 r2 er2 h2 => ?_
  exact s2.step sr2 er2 h2 fun l S3 m3 H3 l' e3 sr3 r3 er3 h3 => h3.ok sr3 (.cons ((r1.mono e2).mono e3) (r2.mono e3) r3)
def keyed : List (Vl × Vl) → Option (List (Key × Vl))
  | [] => some []
  | (x, y) :: r => match toK x, keyed r with
    | some k, some l => some ((k, y) :: l)
    | _, _ => none
def mergeL (kvs more : List (Key × Vl)) : List (Key × Vl) := more.foldl (fun acc kv => setK acc kv.1 kv.2) kvs
def xDisp (r : XP) : XE' := fun env S => (r env (S ++ [.dk []])).bind fun l S1 => match S1[S.length]? with
  | some (.dk []) => match keyed l with
    | some kvs => if kvs.length ≤ 15 then .ok (.ref S.length) (S1.set S.length (.dk (mergeL [] kvs))) else .bad
    | none => .bad
  | _ => .bad
theorem keyed_ok {K : PySem.W.Frag} {m : List Addr} {H : Hp} : ∀ {l : List (Vl × Vl)} {l' : List (V × V)} {kvs : List (Key × Vl)}, keyed l = some kvs → PR N K m H l l' → ∃ ks : List (Key × V), l' = ks.map (fun kv => (kV kv.1, kv.2)) ∧ KR N K m H kvs ks
  | [], _, _, e, .nil => by cases e; exact ⟨[], rfl, .nil⟩
  | (x, y) :: l, _, kvs, e, .cons (w := w) h1 h2 r => by
    unfold keyed at e
    split at e
    · rename_i k l2 q1 q2
      cases e
      obtain ⟨ks, h3, h4⟩ := keyed_ok q2 r
      refine ⟨(k, w) :: ks, ?_, .cons h2 h4⟩
      rw [h3, toK_kV q1 h1]
      rfl
    · cases e
theorem merge_ok {K : PySem.W.Frag} {m : List Addr} {H : Hp} {more : List (Key × Vl)} {mo : List (Key × V)} {kvs : List (Key × Vl)} {ks : List (Key × V)} (h : KR N K m H more mo) : KR N K m H kvs ks → KR N K m H (mergeL kvs more) (mergeK ks mo) := by
  induction h generalizing kvs ks with
  | nil => exact fun r => r
  | cons h t ih => exact fun r => ih (r.put h)
theorem se_disp {ks : List (Option Expr)} {vs : List Expr} {r : XP} (h : SP' N X W pos ks vs r) (hall : ks.all (·.isSome) = true := by rfl) (hl : ks.length = vs.length := by rfl) (h0 : ks ≠ [] := by exact fun z => nomatch z) (h15 : ks.length ≤ 15 := by decide) : SE N X W (.Dict ks vs pos) (xDisp r) := by
  obtain ⟨t0, p0, s0⟩ := h.ex
  refine ⟨_, pe_disp p0 hall hl h0 h15, fun m S H env σ Q s er h p hp => ?_⟩
  have eD : Ext X.K m H (m ++ [p]) (upd H p (.dK [])) := Ext.app (Same.new hp)
  have sD := s.new (Same.new hp) hp upd_same (.dk .nil)
  have mD : (m ++ [p])[S.length]? = some p := by
    have := s.ref_new (p := p) (H' := H)
    cases this with | ref z => exact z
  refine s0.step sD (er.mono eD) (Post.mono eD h) fun l S1 m1 H1 l' e1 sr1 r1 er1 h1 => ?_
  split at h1
  · rename_i hS
    obtain ⟨ys, k1, k2⟩ := sr1.dk (e1.pre _ _ mD) hS
    cases k2
    split at h1
    · rename_i kvs hk
      split at h1
      · rename_i hl
        obtain ⟨ks', h3, h4⟩ := keyed_ok hk r1
        refine ⟨k1, ks', h3, by rw [← h4.len]; exact hl, ?_⟩
        have ex : Ext X.K m1 H1 m1 (upd H1 p (.dK (mergeK [] ks'))) := Ext.upd k1 trivial
        exact h1.to ex (sr1.set (e1.pre _ _ mD) k1 trivial (.dk (merge_ok h4 .nil))) (.ref (e1.pre _ _ mD))
      · exact h1.elim
    · exact h1.elim
  · exact h1.elim
end
/-! ### dict comprehensions -/
def dcZ (I : Itm) (g : GM) (t : XT) (k e : XE') (env : En) (D : Nat) : Nat → Nat → Sto → Out Unit
  | n, i, S => match I.nxt i S with
    | .stop => .ok () S
    | .bad => .bad
    | .yld x S1 => match n with
      | 0 => .bad
      | n + 1 => match g x env S1 with
        | .ok e1 S2 => match t e1 S2 with
          | .ok b S3 => if b = true then match k e1 S3 with
              | .ok y S4 => match e e1 S4 with
                | .ok z S5 => match S5[D]?, toK y with
                  | some (.dk kvs), some ky => if kvs.length < 100000 then dcZ I g t k e env D n (i + 1) (S5.set D (.dk (setK kvs ky z))) else .bad
                  | _, _ => .bad
                | _ => .bad
              | _ => .bad
            else dcZ I g t k e env D n (i + 1) S3
          | _ => .bad
        | _ => .bad
theorem dcZ_eq {I : Itm} {g : GM} {t : XT} {k e : XE'} {env : En} {D n i : Nat} {S : Sto} : dcZ I g t k e env D n i S = match I.nxt i S with
    | .stop => .ok () S
    | .bad => .bad
    | .yld x S1 => match n with
      | 0 => .bad
      | n + 1 => match g x env S1 with
        | .ok e1 S2 => match t e1 S2 with
          | .ok b S3 => if b = true then match k e1 S3 with
              | .ok y S4 => match e e1 S4 with
                | .ok z S5 => match S5[D]?, toK y with
                  | some (.dk kvs), some ky => if kvs.length < 100000 then dcZ I g t k e env D n (i + 1) (S5.set D (.dk (setK kvs ky z))) else .bad
                  | _, _ => .bad
                | _ => .bad
              | _ => .bad
            else dcZ I g t k e env D n (i + 1) S3
          | _ => .bad
        | _ => .bad := by
  cases n <;> rw [dcZ]
def xDc (it : En → Sto → Out Itm) (g : GM) (t : XT) (k e : XE') (vs : List Nat) : XE' := fun env S => (it env S).bind fun I S1 => (dcZ I g t k e (wipeE env vs) S1.length I.fuel 0 (S1 ++ [.dk []])).bind fun _ S2 => .ok (.ref S1.length) S2
section
variable {N : Nms} {X : Cx} {W : L2.St → XK} {kx vx tg iter : Expr} {scope : Scope} {own : List (Str × Nat)} {pos : Pos} {fi : En → Sto → Out Itm} {gm : GM} {ft : XT} {fk fe : XE'} {g : TG}
theorem sim_dc {K : PySem.W.Frag} {wi : TI} {tt : TT} {tk te : TE} {vs : List Nat} (s0 : Sim N K (ItR N K) W wi fi) (s1 : SimGV N K vs g gm) (s2 : Sim N K RvB (fun _ => E0) tt ft) (s3 : Sim N K (Vr N K) (fun _ => E0) tk fk) (s4 : Sim N K (Vr N K) (fun _ => E0) te fe) (h0 : N.xh = none) : Sim N K (Vr N K) W (tDc wi g tt tk te vs) (xDc fi gm ft fk fe vs) := fun m S H env σ Q s er h =>
  s0.step s er h fun I S1 m1 H1 J e1 sr1 r1 er1 h1 => fun D hD => by
    have sD := sr1.new (o := .dk []) (Same.new hD) hD upd_same (.dk .nil)
    have eD : Ext K m1 H1 (m1 ++ [D]) (upd H1 D (.dK [])) := Ext.app (Same.new hD)
    have mD : (m1 ++ [D])[S1.length]? = some D := by
      have := sr1.ref_new (p := D) (H' := H1)
      cases this with | ref z => exact z
    refine ⟨fun i n H' => ∃ m' S', Ext K (m1 ++ [D]) (upd H1 D (.dK [])) m' H' ∧ SR N K m' S' H' ∧ Post N K (Vr N K) m' H' Q (W σ) ((dcZ I gm ft fk fe (wipeE env vs) S1.length n i S').bind fun _ S2 => .ok (.ref S1.length) S2), ⟨I.fuel, m1 ++ [D], S1 ++ [.dk []], Ext.refl, sD, Post.mono eD h1⟩, ?_⟩
    rintro i n H' ⟨m', S', e', s', h'⟩
    rw [dcZ_eq] at h'
    have hJ := r1 m' S' H' i (eD.trans e') s'
    cases q : I.nxt i S' with
    | stop =>
      rw [q] at h' hJ
      exact .inl ⟨hJ, h'.ok s' (.ref (e'.pre _ _ mD))⟩
    | bad => rw [q] at h'; exact h'.elim
    | yld x S2 =>
      rw [q] at h' hJ
      cases n with
      | zero => exact h'.elim
      | succ n =>
        refine .inr ⟨hJ.1, fun H'' => ∃ m' S', Ext K (m1 ++ [D]) (upd H1 D (.dK [])) m' H'' ∧ SR N K m' S' H'' ∧ Post N K (Vr N K) m' H'' Q (W σ) ((dcZ I gm ft fk fe (wipeE env vs) S1.length n (i + 1) S').bind fun _ S2 => .ok (.ref S1.length) S2), fun H'' z => ⟨n, Nat.lt_succ_self n, z⟩, fun u H2 hy => ?_⟩
        obtain ⟨m2, e2, s2', r2⟩ := hJ.2 u H2 hy
        have h2 := Post.mono e2 h'
        have er2 : EnR N K m2 H2 (wipeE env vs) (L2.wipe σ vs) := EnR.wipe h0 ((er1.mono (eD.trans e')).mono e2) vs
        dsimp only at h2
        cases q3 : gm x (wipeE env vs) S2 with
        | err c' x' S3 => rw [q3] at h2; exact h2.elim
        | bad => rw [q3] at h2; exact h2.elim
        | ok env3 S3 =>
          rw [q3] at h2
          dsimp only at h2
          refine s1 m2 S2 H2 (wipeE env vs) (L2.wipe σ vs) x u _ env3 S3 s2' er2 r2 q3 fun m3 H3 σ3 e3 s3' er3 hw => ⟨hw.trans (wipe_wipe σ vs), ?_⟩
          have h3 := Post.mono e3 h2
          refine s2 m3 S3 H3 env3 σ3 _ s3' er3 ?_
          cases q4 : ft env3 S3 with
          | ok b S4 =>
            rw [q4] at h3
            intro m4 H4 b' e4 s4' rb
            cases rb
            have h4 := Post.mono e4 h3
            dsimp only at h4
            cases b with
            | true =>
              rw [if_pos rfl] at h4 ⊢
              refine s3 m4 S4 H4 env3 σ3 _ s4' (er3.mono e4) ?_
              cases q5 : fk env3 S4 with
              | ok y S5 =>
                rw [q5] at h4
                intro m5 H5 uy e5 s5 ry
                have h5 := Post.mono e5 h4
                dsimp only at h5
                refine s4 m5 S5 H5 env3 σ3 _ s5 ((er3.mono e4).mono e5) ?_
                cases q7 : fe env3 S5 with
                | ok z S6 =>
                  rw [q7] at h5
                  intro m6 H6 uz e6 s6 rz
                  have h6 := Post.mono e6 h5
                  dsimp only at h6
                  have mD6 := ((((((e'.trans e2).trans e3).trans e4).trans e5).trans e6).pre _ _ mD)
                  split at h6
                  · rename_i kvs ky hS hk
                    obtain ⟨ys, k1, k2⟩ := s6.dk mD6 hS
                    split at h6
                    · rename_i hl
                      have ex : Ext K m6 H6 m6 (upd H6 D (.dK (putK ys ky uz))) := Ext.upd k1 trivial
                      exact ⟨ys, ky, toK_kV hk ry, k1, sz_lt (by rw [← k2.len]; exact hl), m6, _, (((((e'.trans e2).trans e3).trans e4).trans e5).trans e6).trans ex, s6.set mD6 k1 trivial (.dk (k2.put rz)), Post.mono ex h6⟩
                    · exact h6.elim
                  · exact h6.elim
                | err c' x' S6 => rw [q7] at h5; exact h5.elim
                | bad => rw [q7] at h5; exact h5.elim
              | err c' x' S5 => rw [q5] at h4; exact h4.elim
              | bad => rw [q5] at h4; exact h4.elim
            | false =>
              rw [if_neg Bool.false_ne_true] at h4 ⊢
              exact ⟨m4, S4, ((e'.trans e2).trans e3).trans e4, s4', h4⟩
          | err c' x' S4 => rw [q4] at h3; exact h3.elim
          | bad => rw [q4] at h3; exact h3.elim
theorem se_dc (hc : X.calm = true) (hN : X.N.Nodup) (hi : SI N X W tg iter fi) (ok : BlkOk X.N X.env.scope scope own) (hgv : SimGV N X.K (own.map (·.2)) g gm)
    (hg : ∀ (s : Shared) (H : Hp) (C : Addr) (cl : List (Str × Addr)) (fp : List Addr), PG (X.blk s H scope (compEnvC scope cl C X.env) fp) tg g) (hk : ∀ (s : Shared) (H : Hp) (C : Addr) (cl : List (Str × Addr)) (fp : List Addr), SE N (X.blk s H scope (compEnvC scope cl C X.env) fp) (fun _ => E0) kx fk)
    (he : ∀ (s : Shared) (H : Hp) (C : Addr) (cl : List (Str × Addr)) (fp : List Addr), SE N (X.blk s H scope (compEnvC scope cl C X.env) fp) (fun _ => E0) vx fe)
    (hs : ∀ x, foldedSetIterable iter X.env x = pure x := by intro _; rfl) (h0 : N.xh = none := by rfl) : SE N X W (.DictComp kx vx [⟨tg, iter, [], 0⟩] scope pos) (xDc fi gm yYes fk fe (own.map (·.2))) := by
  obtain ⟨wi, p0, s0⟩ := hi.ex
  exact ⟨_, pe_dc hc hN p0 ok hg (fun _ _ _ _ _ => pts_nil) (fun s H C cl fp => (hk s H C cl fp).pe) (fun s H C cl fp => (he s H C cl fp).pe) hs, sim_dc s0 hgv sim_yes cE_sim cE_sim h0⟩
end
end Nt

namespace Nt
open PySem PySem.Spec PyProof.Rows L2 Evl
/-! ### the names -/
def gnL : List Str := (["WORDS", "BODIES", "CHECKS", "is_set", "is_add", "is_wait", "is_ask", "is_answer", "is_one_term", "HouseError", "BadProgram", "BadText", "BadSide", "BadSteps", "BadHistory", "BadRow", "SHOWN", "if_lines", "while_lines", "ask_lines", "READERS", "read_variable", "read_value", "read_term", "read_steps", "read_answer", "read_comparison", "FORMS", "Block", "Reader"] : List Str) ++ (["BLOCKS", "place_if", "place_while", "Walk", "ACTIONS", "do_set", "do_add", "do_wait", "do_ask", "do_answer", "do_grow", "do_list", "do_test", "do_jump", "Run", "TooMany", "Listing", "NoMachine", "Full", "Busy", "Unsettled", "NothingDone", "OTHERS", "Teller", "Collector", "KINDS", "make_teller", "make_collector", "State", "House"] : List Str) ++ (["ROWS", "say_arrive", "say_withdraw", "say_undo", "say_advance", "say_settle", "say_clock", "say_members", "say_state", "say_paper", "COUNTS", "Desk", "DEEDS", "do_arrive", "do_withdraw", "do_advance", "SIZES", "OUTCOMES", "ANSWERS", "shows_listed", "shows_spent", "shows_teller", "shows_collector", "SHOWN_notation", "KINDS_machines", "SHOWN_looker", "KINDS_looker"] : List Str)
def fnL : List Str := (["line", "index", "word", "condition", "bodies", "kind", "blocks", "many", "replied", "counter", "code", "position", "known", "steps", "variables", "requested", "listed", "outcome", "asked", "answer", "length", "first", "second", "period", "shift", "head", "cycle", "number", "most", "rank_number"] : List Str) ++ (["program", "side", "is_waiting", "known_run", "begun", "acted", "listing", "now", "next_number", "sets", "machines", "greatest", "standing", "deeds", "earlier", "is_busy", "house"] : List Str)
def pad (i : Nat) : Str := ⟨Array.replicate (i + 1000) 63⟩
def gn (i : Nat) : Str := gnL.getD i (pad i)
def fnm (i : Nat) : Str := fnL.getD i (pad i)
theorem fnL_ok : (fnL.all fun x => decide (x.cps.size < 1000)) = true ∧ fnL.Nodup := by decide +kernel
theorem fnm_in {i : Nat} (h : i < fnL.length) : fnm i = fnL[i] := by
  unfold fnm
  rw [List.getD_eq_getElem?_getD, List.getElem?_eq_getElem h]
  rfl
theorem fnm_out {i : Nat} (h : ¬ i < fnL.length) : fnm i = pad i := by
  unfold fnm
  rw [List.getD_eq_getElem?_getD, List.getElem?_eq_none (by omega)]
  rfl
theorem fnm_size {i : Nat} (h : i < fnL.length) : (fnm i).cps.size < 1000 := by
  rw [fnm_in h]
  have := List.all_eq_true.mp fnL_ok.1 _ (List.getElem_mem h)
  simpa using this
theorem pad_size (i : Nat) : (pad i).cps.size = i + 1000 := by
  show (Array.replicate (i + 1000) 63).size = _
  rw [Array.size_replicate]
theorem fnm_inj (i j : Nat) (h : fnm i = fnm j) : i = j := by
  by_cases hi : i < fnL.length
  · by_cases hj : j < fnL.length
    · rw [fnm_in hi, fnm_in hj] at h
      exact (List.getElem_inj fnL_ok.2).mp h
    · have h1 := fnm_size hi
      rw [h, fnm_out hj, pad_size] at h1
      omega
  · by_cases hj : j < fnL.length
    · have h1 := fnm_size hj
      rw [← h, fnm_out hi, pad_size] at h1
      omega
    · have h1 := pad_size i
      rw [← fnm_out hi, h, fnm_out hj, pad_size] at h1
      omega
def NN : Nms := ⟨gn, fnm, fnm_inj, none⟩
theorem nof {md : Str} (h : ((fnL.all fun x => decide (x ≠ md)) && decide (md.cps.size < 1000)) = true) : ∀ i, NN.f i ≠ md := fun i q => by
  obtain ⟨h1, h2⟩ := He.ba h
  by_cases hi : i < fnL.length
  · have q' : fnL[i] = md := by rw [← fnm_in hi]; exact q
    have := List.all_eq_true.mp h1 _ (List.getElem_mem hi)
    exact absurd q' (of_decide_eq_true this)
  · have h3 := pad_size i
    rw [← fnm_out hi, show fnm i = md from q] at h3
    have := of_decide_eq_true h2
    omega
end Nt

namespace Nt
open PySem PySem.Spec PyProof.Rows L2 Evl
section
variable {N : Nms} {X : Cx} {W : L2.St → XK} {e a b c : Expr} {fa fb fc : XE'} {pos p : Pos} {x : Str} {g g' : Vl → Vl → Sto → Out Vl}
theorem sim_chain {ta tb tc : TE} {r r' : R2} (h1 : OpS N X.K r g) (h2 : OpS N X.K r' g') (s1 : Sim N X.K (Vr N X.K) W ta fa) (s2 : Sim N X.K (Vr N X.K) W tb fb) (s3 : Sim N X.K (Vr N X.K) W tc fc) : Sim N X.K (Vr N X.K) W (tChain r r' ta tb tc) (xChain g g' fa fb fc) := fun m S H env σ Q s er h =>
  s1.step s er h fun x S1 m1 H1 u e1 sr1 r1 er1 k1 => s2.step sr1 er1 k1 fun y S2 m2 H2 w e2 sr2 r2 er2 k2 => by
    refine h1 m2 S2 H2 x y u w _ (W σ) sr2 (r1.mono e2) r2 ?_
    cases q : g x y S2 with
    | ok z S3 =>
      rw [q] at k2
      intro m3 H3 uz e3 sr3 rz
      cases z with
      | bl k =>
        cases rz
        refine ⟨k, rfl, ?_⟩
        have k3 := Post.mono e3 k2
        cases k with
        | true =>
          rw [if_pos rfl]
          have k3' : Post N X.K (Vr N X.K) m3 H3 Q (W σ) ((fc env S3).bind fun w S5 => g' y w S5) := k3
          exact s3.step sr3 (er2.mono e3) k3' fun z S4 m4 H4 u4 e4 sr4 r4 er4 k4 => h2 m4 S4 H4 y z w u4 Q _ sr4 ((r2.mono e3).mono e4) r4 k4
        | false =>
          rw [if_neg Bool.false_ne_true]
          exact Post.ok (S := S3) (R := Vr N X.K) (v := .bl false) k3 sr3 (.bl false)
      | _ => exact k2.elim
    | err c' x' S3 => rw [q] at k2; exact k2
    | bad => rw [q] at k2; exact k2
theorem se_chain {op op' : CmpOp} (ho : OpM N X (compareOp op) g) (ho' : OpM N X (compareOp op') g') (ha : SE N X W a fa) (hb : SE N X W b fb) (hc : SE N X W c fc) (hm : lastMarks [op, op'] [b, c] = false := by with_unfolding_all rfl) : SE N X W (.Compare a [op, op'] [b, c] pos) (xChain g g' fa fb fc) := by
  obtain ⟨r, h1, h2⟩ := ho.ex
  obtain ⟨r', h1', h2'⟩ := ho'.ex
  obtain ⟨ta, p1, s1⟩ := ha.ex
  obtain ⟨tb, p2, s2⟩ := hb.ex
  obtain ⟨tc, p3, s3⟩ := hc.ex
  exact ⟨_, pe_chain h1 h1' p1 p2 p3 hm, sim_chain h2 h2' s1 s2 s3⟩
def yChain (g g' : Vl → Vl → Sto → Out Vl) (a b c : XE') : XT := fun env S => (xChain g g' a b c env S).bind toB
theorem st_chain {op op' : CmpOp} (ho : OpM N X (compareOp op) g) (ho' : OpM N X (compareOp op') g') (ha : SE N X W a fa) (hb : SE N X W b fb) (hc : SE N X W c fc) (hm : lastMarks [op, op'] [b, c] = false := by with_unfolding_all rfl) : ST N X W (.Compare a [op, op'] [b, c] pos) (yChain g g' fa fb fc) := by
  obtain ⟨r, h1, h2⟩ := ho.ex
  obtain ⟨r', h1', h2'⟩ := ho'.ex
  obtain ⟨ta, p1, s1⟩ := ha.ex
  obtain ⟨tb, p2, s2⟩ := hb.ex
  obtain ⟨tc, p3, s3⟩ := hc.ex
  exact ⟨_, pt_chain h1 h1' p1 p2 p3 hm, sim_test (sim_chain h2 h2' s1 s2 s3)⟩
/-- a written tuple of the module -/
theorem se_gtup {y : Addr} {ys : List V} {xs : List Vl} (hg : Gl X x) (hm : X.mg x = some (.ref y)) (ht : ∀ H : Hp, SqT X.K H y ys) (hr : ∀ m H, Vrs N X.K m H xs ys) (hd : (x == ("__debug__" : Str)) = false := by decide) : SE N X W (.Name x pos) (xC (.ktp xs)) :=
  ⟨_, pe_gref hg hm hd, fun m S H env σ Q s er h => h.ok s (.ktp (ht H) (hr m H))⟩
end
section
variable {N : Nms} {K : PySem.W.Frag} {x qual : Str} {params : Arguments} {body : List Stmt} {scope : Scope} {dvs : List V} {kws : List (Str × V)} {f : Addr} {ps : List Str}
/-- keywords, no defaults -/
theorem bd_nk (n : Nat) (ks : List Str) (g : {α : Type} → List α → List α → List α) (hrel : ∀ {vs zs : List V} {us ws : List Value}, Vals vs us → Vals zs ws → Vals (g vs zs) (g us ws))
    (hL : ∀ (m : List Addr) (H : Hp) (xs zs : List Vl) (us ws : List V), Vrs N K m H xs us → Vrs N K m H zs ws → Vrs N K m H (g xs zs) (g us ws))
    (hb : ∀ (kV doc pm : Value) (an : Option Addr) (cdv ct : Value) (us ws : List Value), us.length = n → ws.length = ks.length → bindArgs (PySem.W.fnOf x qual params body scope .none kV doc pm an cdv ct) ⟨us, ks.zip ws⟩ = pure (ps.zip (g us ws))) :
    Bd N K (FunD K x qual params body scope [] kws f) ps n ks (fun xs zs => g xs zs) := fun fd F => by
  obtain ⟨oc, od, dV, kV, doc, pm, an, cdv, ct, osl, rfl, lk, hcd, hD, hK⟩ := F.ex
  rcases hD with ⟨_, rfl⟩ | ⟨e, _⟩
  · exact ⟨fun us ws => g us ws, fun us ws => g us ws, ⟨fun s us ws X l1 l2 => .of_eq (hb kV doc pm an cdv ct us ws l1 l2), fun r1 r2 => hrel r1 r2⟩, fun m H xs us zs ws r1 r2 => hL m H xs zs us ws r1 r2⟩
  · exact absurd rfl e
/-- keyword-only defaults, ms of them taken -/
theorem bd_kw (n : Nat) (ks : List Str) (ms : List (Str × V)) (g : {α : Type} → List α → List α → List α → List α) (msL : List Vl) (hk : kws ≠ []) (hms : ∀ q ∈ ms, q ∈ kws)
    (hrel : ∀ {vs mz zs : List V} {us mv ws : List Value}, Vals vs us → Vals mz mv → Vals zs ws → Vals (g vs mz zs) (g us mv ws))
    (hL : ∀ (m : List Addr) (H : Hp) (xs zs : List Vl) (us ws : List V), Vrs N K m H xs us → Vrs N K m H zs ws → Vrs N K m H (g xs msL zs) (g us (ms.map (·.2)) ws))
    (h : ∀ (D : Addr) (doc pm : Value) (an : Option Addr) (cdv ct : Value) (us mv ws : List Value), us.length = n → mv.length = ms.length → ws.length = ks.length →
      KwChain D ((ms.map (·.1)).zip mv) (bindArgs (PySem.W.fnOf x qual params body scope .none (.ref D) doc pm an cdv ct) ⟨us, ks.zip ws⟩) (ps.zip (g us mv ws))) :
    Bd N K (FunD K x qual params body scope [] kws f) ps n ks (fun xs zs => g xs msL zs) := fun fd F => by
  obtain ⟨mv, hb⟩ := F.kbinds0 n ks ms g hk hms hrel h
  exact ⟨_, _, hb, fun m H xs us zs ws r1 r2 => hL m H xs zs us ws r1 r2⟩
end
/-- a def that is not called -/
theorem fn_bad {N : Nms} {P : Program} {w : World} {K : PySem.W.Frag} {mg : Str → Option Value} {base : Heap} {CX : CXT} {k : Nat} {x qual : Str} {params : Arguments} {body : List Stmt} {scope : Scope} {dvs : List V} {kws : List (Str × V)} {f : Addr} {ps : List Str}
    (F : ∃ fd, FunD K x qual params body scope dvs kws f fd) : FnM N P w K mg base CX k f (FunD K x qual params body scope dvs kws f) ps (fun _ _ => .bad) := by
  obtain ⟨fd, F⟩ := F
  exact ⟨fd, F, F.kp, ⟨fun vs H Q E h => by obtain ⟨_, _, _, _, _, _, z⟩ := h; exact z.elim, fun A outer s H args us vs Q E _ _ _ _ h => by obtain ⟨_, _, _, _, _, _, z⟩ := h; exact z.elim⟩⟩
/-- a def that is known by an older promise -/
theorem fn_of_def {N : Nms} {P : Program} {w : World} {K : PySem.W.Frag} {mg : Str → Option Value} {base : Heap} {CX : CXT} {k : Nat} {x : Str} {ps : List Str} {sp : Sp} {mf : List Vl → Sto → Out Vl} (D : Def P w K mg base CX k x ps sp) (hg : mg x = some (.ref (He.ga K x)))
    (h : ∀ vs H Q E, spM N K ps.length mf vs H Q E → sp vs H Q E) : ∃ T, FnM N P w K mg base CX k (He.ga K x) T ps mf ∧ Bd N K T ps ps.length [] (fun xs _ => xs) := by
  obtain ⟨f, fd, h1, h2, h3, h4⟩ := D.ex
  rw [hg] at h1
  cases h1
  refine ⟨fun fd' => fd' = fd, ⟨fd, rfl, h2, h4.imp h⟩, fun fd' e => ?_⟩
  subst e
  refine ⟨fun us _ => us, fun us _ => us, ⟨fun s us ws X l1 l2 => ?_, fun r _ => r⟩, fun m H xs us zs ws r _ => r⟩
  have := h3 s us X (by rw [List.append_nil]; exact l1)
  rw [List.append_nil] at this
  exact this
/-! ### the end of a law -/
theorem law_end {N : Nms} {K : PySem.W.Frag} {H : Hp} {a : Addr} {ns : List Int} {mf : List Vl → Sto → Out Vl} (hO : Only H) (hS : SqL K H a (ns.map V.int)) (h : ∃ S', mf [.scr ns] [] = .ok (.bl true) S') : spM N K 1 mf [.ref a] H (fun v _ => v = .bl true) (fun _ _ _ => False) := by
  obtain ⟨S', h⟩ := h
  refine ⟨[], [], [.scr ns], rfl, ⟨rfl, fun i j a h _ => (by rw [List.getElem?_nil] at h; cases h), fun i o h => (by rw [List.getElem?_nil] at h; cases h)⟩, .cons (.scr ?_) .nil, ?_⟩
  · rcases hS with (q | ⟨o, q⟩) | q
    · rcases hO a with z | ⟨o, xs, z⟩
      · rw [q] at z; cases z
      · rw [q] at z; cases z
    · exact .inl ⟨o, q⟩
    · exact .inr q
  · rw [h]
    exact fun m' H' u _ _ r => by cases r; rfl
theorem FnM.fn {N : Nms} {P : Program} {w : World} {K : PySem.W.Frag} {mg : Str → Option Value} {base : Heap} {CX : CXT} {k : Nat} {x qual : Str} {params : Arguments} {body : List Stmt} {scope : Scope} {dvs : List V} {kws : List (Str × V)} {f : Addr} {fd : FuncData} {ps : List Str} {mf : List Vl → Sto → Out Vl}
    (D : FnM N P w K mg base CX k f (FunD K x qual params body scope dvs kws f) ps mf) (F : FunD K x qual params body scope dvs kws f fd) : FnOk P w K mg base CX k f fd ps (spM N K ps.length mf) := by
  obtain ⟨fd', F', _, G⟩ := D.ex
  obtain ⟨oc, od, dV, kV, doc, pm, an, cdv, ct, osl, e1, lk, _⟩ := F.ex
  obtain ⟨oc', od', dV', kV', doc', pm', an', cdv', ct', osl', e1', lk', _⟩ := F'.ex
  rw [lk] at lk'
  injection lk' with lk'
  injection lk' with h1 h2 h3 h4
  injection h3 with h3
  rw [h3]
  exact G
/-! ### evaluation -/
theorem vEq_int {i j : Int} {S : Sto} : vEq (.int i) (.int j) S = .ok (.bl (decide (i = j))) S := by
  show Out.ok (Vl.bl (PyData.eqv (.int i) (.int j))) S = _
  rw [PyData.eqv]
  congr 2
theorem vEq_str {i j : Str} {S : Sto} : vEq (.str i) (.str j) S = .ok (.bl (decide (i = j))) S := by
  show Out.ok (Vl.bl (PyData.eqv (.str i) (.str j))) S = _
  rw [PyData.eqv]
  congr 2
theorem vNe_int {i j : Int} {S : Sto} : vNe (.int i) (.int j) S = .ok (.bl (!decide (i = j))) S := by
  show Out.ok (Vl.bl (!PyData.eqv (.int i) (.int j))) S = _
  rw [PyData.eqv]
  congr 2
theorem vNe_str {i j : Str} {S : Sto} : vNe (.str i) (.str j) S = .ok (.bl (!decide (i = j))) S := by
  show Out.ok (Vl.bl (!PyData.eqv (.str i) (.str j))) S = _
  rw [PyData.eqv]
  congr 2
theorem get_app {S T : Sto} {i : Nat} {o : Ob} (h : S[i]? = some o) : (S ++ T)[i]? = some o := by
  have hi : i < S.length := by
    rcases Nat.lt_or_ge i S.length with q | q
    · exact q
    · rw [List.getElem?_eq_none q] at h; cases h
  rw [List.getElem?_append_left hi]; exact h
theorem get_lt {S : Sto} {i : Nat} {o : Ob} (h : S[i]? = some o) : i < S.length := by
  rcases Nat.lt_or_ge i S.length with q | q
  · exact q
  · rw [List.getElem?_eq_none q] at h; cases h
theorem get_new {S : Sto} {o : Ob} : (S ++ [o])[S.length]? = some o := by
  rw [List.getElem?_append_right (Nat.le_refl _), Nat.sub_self]
  rfl
theorem get_set {S : Sto} {i : Nat} {o p : Ob} (h : S[i]? = some o) : (S.set i p)[i]? = some p := by
  rw [List.getElem?_set_self (get_lt h)]
theorem get_set_ne {S : Sto} {i j : Nat} {p : Ob} (h : i ≠ j) : (S.set i p)[j]? = S[j]? := List.getElem?_set_ne h
/-- nothing changes but at ids and behind -/
structure Kp (ids : List Nat) (S S' : Sto) : Prop where
  len : S.length ≤ S'.length
  same : ∀ i, i < S.length → i ∉ ids → S'[i]? = S[i]?
theorem Kp.refl {ids : List Nat} {S : Sto} : Kp ids S S := ⟨Nat.le_refl _, fun _ _ _ => rfl⟩
theorem Kp.trans {ids : List Nat} {S S1 S2 : Sto} (a : Kp ids S S1) (b : Kp ids S1 S2) : Kp ids S S2 := ⟨Nat.le_trans a.len b.len, fun i h n => (b.same i (Nat.lt_of_lt_of_le h a.len) n).trans (a.same i h n)⟩
theorem Kp.set {ids : List Nat} {S : Sto} {i : Nat} {o : Ob} (h : i ∈ ids) : Kp ids S (S.set i o) := ⟨by rw [List.length_set]; exact Nat.le_refl _, fun j _ n => get_set_ne fun e => n (e ▸ h)⟩
theorem Kp.app {ids : List Nat} {S T : Sto} : Kp ids S (S ++ T) := ⟨by rw [List.length_append]; omega, fun j h _ => List.getElem?_append_left h⟩
theorem Kp.mono {ids js : List Nat} {S S' : Sto} (h : Kp ids S S') (hs : ∀ i, i ∈ ids → i ∈ js) : Kp js S S' := ⟨h.len, fun i hi n => h.same i hi fun z => n (hs i z)⟩
theorem Kp.get {ids : List Nat} {S S' : Sto} {i : Nat} {o : Ob} (h : Kp ids S S') (ho : S[i]? = some o) (n : i ∉ ids) : S'[i]? = some o := by rw [h.same i (get_lt ho) n]; exact ho
/-- what is new may change -/
theorem Kp.late {ids : List Nat} {S S1 S2 : Sto} {js : List Nat} (a : Kp ids S S1) (b : Kp js S1 S2) (h : ∀ i, i ∈ js → i ∈ ids ∨ S.length ≤ i) : Kp ids S S2 := ⟨Nat.le_trans a.len b.len, fun i hi n => (b.same i (Nat.lt_of_lt_of_le hi a.len) fun z => by
  rcases h i z with q | q
  · exact n q
  · omega).trans (a.same i hi n)⟩
/-! loops -/
theorem forZ_inv {I : Itm} {g : GM} {f : ZS} (xs : List Vl) (P : Nat → En → Sto → Prop) (hI : ∀ i env S, P i env S → I.nxt i S = (match xs[i]? with | some x => .yld x S | none => .stop))
    (hs : ∀ i x env S, xs[i]? = some x → P i env S → ∃ e1 S1 e2 S2, g x env S = .ok e1 S1 ∧ (f e1 S1 = .ok (.nx e2) S2 ∨ f e1 S1 = .ok (.ct e2) S2) ∧ P (i + 1) e2 S2) :
    ∀ (n i : Nat) env S, xs.length ≤ n + i → i ≤ xs.length → P i env S → ∃ e S', forZ I g f n i env S = .ok (.nx e) S' ∧ P xs.length e S'
  | n, i, env, S, hn, hi, hP => by
    rw [forZ_eq, hI i env S hP]
    cases hx : xs[i]? with
    | none =>
      have : xs.length ≤ i := List.getElem?_eq_none_iff.mp hx
      have e : i = xs.length := by omega
      subst e
      exact ⟨env, S, rfl, hP⟩
    | some x =>
      have hl : i < xs.length := (List.getElem?_eq_some_iff.mp hx).1
      cases n with
      | zero => omega
      | succ n =>
        obtain ⟨e1, S1, e2, S2, h1, h2, h3⟩ := hs i x env S hx hP
        obtain ⟨e, S', h4, h5⟩ := forZ_inv xs P hI hs n (i + 1) e2 S2 (by omega) (by omega) h3
        refine ⟨e, S', ?_, h5⟩
        dsimp only
        rw [h1]
        rcases h2 with h2 | h2 <;> (simp only [Out.bindS_ok, h2]; exact h4)
theorem nxt_T {xs : List Vl} {i : Nat} {S : Sto} : (itT xs).nxt i S = (match xs[i]? with | some x => .yld x S | none => .stop) := rfl
theorem nxt_L {xs : List Vl} {i j n : Nat} {S : Sto} (h : S[j]? = some (.lst xs)) : (itL j n).nxt i S = (match xs[i]? with | some x => .yld x S | none => .stop) := by
  show (match S[j]? with
    | some (.lst xs) => match xs[i]? with
      | some x => Yd.yld x S
      | none => .stop
    | _ => .bad) = _
  rw [h]
def rngL (lo : Int) (n : Nat) : List Vl := (List.range n).map fun i => .int (lo + (i : Nat))
theorem nxt_R {lo : Int} {n i : Nat} {S : Sto} : (itR lo n).nxt i S = (match (rngL lo n)[i]? with | some x => .yld x S | none => .stop) := by
  show (if i < n then Yd.yld (.int (lo + (i : Nat))) S else .stop) = _
  unfold rngL
  rw [List.getElem?_map]
  split
  · rename_i h; rw [List.getElem?_range h]; rfl
  · rename_i h; rw [List.getElem?_eq_none (by rw [List.length_range]; omega)]; rfl
theorem rngL_len {lo : Int} {n : Nat} : (rngL lo n).length = n := by unfold rngL; rw [List.length_map, List.length_range]
theorem rngL_get {lo : Int} {n i : Nat} {x : Vl} (h : (rngL lo n)[i]? = some x) : i < n ∧ x = .int (lo + (i : Nat)) := by
  unfold rngL at h
  rw [List.getElem?_map] at h
  cases q : (List.range n)[i]? with
  | none => rw [q] at h; cases h
  | some j =>
    rw [q] at h
    cases h
    have h1 := (List.getElem?_eq_some_iff.mp q).1
    rw [List.length_range] at h1
    rw [List.getElem?_range h1] at q
    cases q
    exact ⟨h1, rfl⟩
/-! ### a law whose defs may raise, but does not -/
def CXA (P : Program) : CXT := fun outer H s E u s' => ∃ w, L2.CX P w outer H s E u s'
theorem CXA.no {P : Program} {outer : List Env} {H : Hp} {s : Shared} {u : Value} {s' : Shared} (h : CXA P outer H s (fun _ _ _ => False) u s') : False := by
  obtain ⟨w, a, B, H', cls, d, _, _, _, _, _, _, _, hE⟩ := h
  exact hE
theorem any_ok {P : Program} {w : World} {K : PySem.W.Frag} {mg : Str → Option Value} {base : Heap} {k : Nat} {f : Addr} {fd : FuncData} {ps : List Str} {sp : Sp} (F : FnOk P w K mg base (L2.CX P w) k f fd ps sp) : FnOk P w K mg base (CXA P) k f fd ps sp :=
  ⟨F.len, fun A outer s H args us vs Q E hr he hb hv hs => codeAny_mono (F.run A outer s H args us vs Q E hr he hb hv hs) fun r s' x => by
    cases r with
    | ok v =>
      cases v <;> exact x
    | error e => exact ⟨w, x⟩⟩
end Nt

namespace Nt
open PySem PySem.Spec PyProof.Rows L2 Evl
/-! ### == and != by an own __eq__ -/
section
variable {prog : Program} {w : World} {A : Around} {E : Value → Shared → Prop} {s : Shared} {K : PySem.W.Frag} {x C f : Addr} {y : Value} {ox : Obj} {od : Option Obj}
theorem entry_ne {Q : Fin → Shared → Prop} (hu : A.units < cLine) (X : K.In s.heap) (I : PySem.W.InstAt s.heap x ox C od) (hs : PySem.W.findIn K (.ref C) "__eq__" = some (some (.ref f))) (hf : PySem.W.isFn K (.ref f) = true)
    (h : wpAny (model prog w) A (call (.ref f) [.ref x, y]) (fun v s' => ∃ t, v = .bool t ∧ Q (.done (.ret (.bool (!t)))) s') E s) : wpAny (model prog w) A (Builtin.«object.__ne__» ⟨[.ref x, y], []⟩) Q E s := by
  unfold Builtin.«object.__ne__»
  repeat (first
    | with_reducible refine wpAny_cRoomFor hu ?_
    | (refine wpAny_bind (m := callSpecialIfBound? (.ref x) (Str.ofString "__eq__") [y])
        (PySem.W.ifBound_K X I hs hf (wpAny_mono h (fun r s' hr => by
          obtain ⟨b, rfl, hq⟩ := hr
          repeat (first | exact hq | exact wpAny_pure hq | exact wpAny_truthy_bool hq | (refine wpAny_bind (m := truthy (.bool _)) (wpAny_truthy_bool ?_)) | wp_step)) fun _ _ e => e)))
    | wp_step)
theorem call_objNe {Q : Value → Shared → Prop} (hu : A.in1.units < cLine) (X : K.In s.heap) (I : PySem.W.InstAt s.heap x ox C od) (hm : PySem.W.mroIn K C (.type "object") = some true) (hs : PySem.W.findIn K (.ref C) "__eq__" = some (some (.ref f))) (hf : PySem.W.isFn K (.ref f) = true)
    (h : wpAny (model prog w) A.in1 (call (.ref f) [.ref x, y]) (fun v s' => ∃ t, v = .bool t ∧ Q (.bool (!t)) s') E s) :
    wpAny (model prog w) A (call (.builtin "object.__ne__") [.ref x, y]) Q E s :=
  wpAny_call (codeAny_call_builtin F.cmp_object.ne.plain F.cmpEntry_ne (PySem.W.check_slot F.cmpKind_ne F.cmpSplit_ne (I.type.andThen (PySem.W.looks_mroIn X hm)) (F.cmpArgs_ne _ _) (entry_ne hu X I hs hf h)))
theorem ifBound_objNe {M : Model} {args : List Value} {Q : Option Value → Shared → Prop} (X : K.In s.heap) (I : PySem.W.InstAt s.heap x ox C od) (hs : PySem.W.findIn K (.ref C) "__ne__" = some (some (.builtin "object.__ne__")))
    (h : wpAny M A (call (.builtin "object.__ne__") (.ref x :: args)) (fun v => Q (some v)) E s) : wpAny M A (callSpecialIfBound? (.ref x) "__ne__" args) Q E s := by
  simp only [callSpecialIfBound?, bindSpecialIfBound?]
  refine wpAny_holding (wpAny_bind (wpAny_bind (wpAny_bind (I.type.here ((PySem.W.looks_findIn X hs).here ?_)))))
  refine wpAny_bind (wpAny_askSetting (wpAny_ite ?_))
  have fin : wpAny M A (call (.builtin "object.__ne__") ([.ref x] ++ args) >>= fun v => pure (some v)) Q E s := wpAny_bind (wpAny_mono h (fun v s' h' => wpAny_pure h') fun _ _ h' => h')
  split
  · exact wpAny_bind (wpAny_of_eq (F.cmp_object.ne.bind _) (wpAny_pure (by exact fin)))
  · exact wpAny_tryCatch (wpAny_bind (wpAny_of_eq (F.cmp_object.ne.bind _) (wpAny_pure (by exact fin))))
theorem rc_ne {Q : Value → Shared → Prop} (hu : A.units < cLine) (hu1 : A.in1.units < cLine) (X : K.In s.heap) (I : PySem.W.InstAt s.heap x ox C od) {tb : Value} (hb : PySem.W.Looks (model prog w) s.heap (typeOf y) tb) (hn : PySem.W.notFirst K C tb = true)
    (hm : PySem.W.mroIn K C (.type "object") = some true) (hne : PySem.W.findIn K (.ref C) "__ne__" = some (some (.builtin "object.__ne__"))) (hs : PySem.W.findIn K (.ref C) "__eq__" = some (some (.ref f))) (hf : PySem.W.isFn K (.ref f) = true)
    (h : wpAny (model prog w) A.in1 (call (.ref f) [.ref x, y]) (fun v s' => ∃ t, v = .bool t ∧ Q (.bool (!t)) s') E s) : wpAny (model prog w) A (richCompare .NotEq (.ref x) y) Q E s := by
  have one : wpAny (model prog w) A (tryCompare (.ref x) "__ne__" y) (fun r s' => ∃ v, r = some v ∧ Q v s') E s := by
    unfold tryCompare
    refine wpAny_bind (ifBound_objNe X I hne (call_objNe hu1 X I hm hs hf (wpAny_mono h (fun v s' hv => ?_) fun _ _ e => e)))
    obtain ⟨t, rfl, hq⟩ := hv
    exact ⟨t, rfl, wpAny_pure ⟨_, rfl, hq⟩⟩
  unfold richCompare
  simp only [oneThing_ref]
  refine wpAny_holding (wpAny_bind (wpAny_cRoomFor hu ?_))
  rw [cmpInfo_NotEq]
  dsimp only
  refine wpAny_bind (I.type.here (wpAny_bind (hb.here ?_)))
  split
  · rename_i q
    have e : PySem.W.subIn K tb (.ref C) = some false := by
      rcases Bool.or_eq_true_iff.mp hn with e | e
      · rw [beq_iff_eq.mp e] at q; simp at q
      · exact beq_iff_eq.mp e
    refine wpAny_bind ((PySem.W.looks_subIn X e).here ?_)
    simp only [Bool.false_eq_true, if_false]
    refine wpAny_bind (wpAny_mono one (fun r s' z => ?_) fun _ _ e => e)
    obtain ⟨v, rfl, hq⟩ := z
    exact wpAny_pure hq
  · refine wpAny_bind (wpAny_pure ?_)
    simp only [Bool.false_eq_true, if_false]
    refine wpAny_bind (wpAny_mono one (fun r s' z => ?_) fun _ _ e => e)
    obtain ⟨v, rfl, hq⟩ := z
    exact wpAny_pure hq
end
section
variable {X : Cx} {n : Nat} {C f : Addr} {fd : FuncData} {ps : List Str} {sp : Sp}
/-- both of the class at C -/
def rOwn (neg : Bool) (C : Addr) (sp : Sp) : R2 := fun x y H Q => ∃ a b dx dy fs gs, x = .ref a ∧ y = .ref b ∧ H a = some (.ins C dx fs) ∧ H b = some (.ins C dy gs) ∧ sp [x, y] H (fun v H' => ∃ t, v = .bl t ∧ Q (.bl (xor neg t)) H') (fun _ _ _ => False)
theorem own_call {A : Around} {pins : List (Addr × Obj)} {s : Shared} {σ : L2.St} {H : Hp} {a b : Addr} {Q : VK} (F : FnOk X.prog X.w X.K X.mg X.base CX0 n f fd ps sp) (hb : Binds X.K fd ps []) (sb : Sub X n A) (I : Inv X pins σ H s)
    (hsp : sp [.ref a, .ref b] H Q (fun _ _ _ => False)) : wpAny (model X.prog X.w) A (call (.ref f) [.ref a, .ref b]) (EP X pins σ Q) X.xe s := by
  have e0 : Env0 X.prog X.w X.K X.mg X.base A X.stack s H := by
    have e := I.env0
    exact ⟨by rw [sb.fr]; exact e.frames, e.mod, e.bs, e.bsz, e.funs, e.frf, e.hok, e.bare⟩
  have hl := F.len _ _ _ _ hsp
  have r2 : Vals [V.ref a, V.ref b] [Value.ref a, Value.ref b] := .cons rfl (.cons rfl .nil)
  refine wpAny_call (codeAny_mono (F.run A X.stack s H ⟨[.ref a, .ref b], []⟩ [.ref a, .ref b] [.ref a, .ref b] _ _ sb.room e0 (by
    have := hb s [.ref a, .ref b] I.kIn (by simpa using hl)
    simpa using this) r2 hsp) fun r s' hq => ?_)
  cases r with
  | error e => exact hq.elim
  | ok fl =>
    cases fl with
    | ret w =>
      obtain ⟨z, H', I', rz, ez⟩ := I.after hq
      exact ⟨z, H', I', rz, ez⟩
    | next => exact False.elim hq
    | brk => exact False.elim hq
    | cont => exact False.elim hq
theorem op_neOwn (F : FnOk X.prog X.w X.K X.mg X.base CX0 n f fd ps sp) (o : OwnE X.K C f) (hb : Binds X.K fd ps []) (hr : Room (n + 1) X.A) : OpR X (compareOp .NotEq) (rOwn true C sp) := by
  intro pins s σ H x y v u Q I rx ry h
  obtain ⟨a, b, dx, dy, fs, gs, rfl, rfl, ha, hb', hsp⟩ := h
  cases rx
  cases ry
  obtain ⟨mA, J, _⟩ := ins_get I.hok ha
  obtain ⟨mB, J', _⟩ := ins_get I.hok hb'
  obtain ⟨od, J, _⟩ := J.look
  obtain ⟨od', J', _⟩ := J'.look
  have sb : Sub X (n + 1) X.A := ⟨hr, rfl⟩
  show wpAny (model X.prog X.w) X.A (richCompare .NotEq (.ref a) (.ref b)) (EP X pins σ Q) X.xe s
  refine rc_ne (tb := .ref C) sb.room.units0 sb.in1.room.units0 I.kIn J J'.type (by simp [PySem.W.notFirst]) o.hm o.ne o.eq o.fn (wpAny_mono (own_call F hb sb.in1 I hsp) (fun v s' hv => ?_) fun _ _ e => e)
  obtain ⟨z, H', I', rz, t, rfl, q⟩ := hv
  cases rz
  exact ⟨t, rfl, .bl (!t), H', I', rfl, by simpa using q⟩
theorem op_eqOwn (F : FnOk X.prog X.w X.K X.mg X.base CX0 n f fd ps sp) (o : OwnE X.K C f) (hb : Binds X.K fd ps []) (hr : Room (n + 1) X.A) : OpR X (compareOp .Eq) (rOwn false C sp) := by
  intro pins s σ H x y v u Q I rx ry h
  obtain ⟨a, b, dx, dy, fs, gs, rfl, rfl, ha, hb', hsp⟩ := h
  cases rx
  cases ry
  obtain ⟨mA, J, _⟩ := ins_get I.hok ha
  obtain ⟨mB, J', _⟩ := ins_get I.hok hb'
  obtain ⟨od, J, _⟩ := J.look
  obtain ⟨od', J', _⟩ := J'.look
  obtain ⟨m, hF⟩ := I.fr
  have sb : Sub X (n + 1) X.A := ⟨hr, rfl⟩
  show wpAny (model X.prog X.w) X.A (richCompare .Eq (.ref a) (.ref b)) (EP X pins σ Q) X.xe s
  refine PySem.W.cmp_K (op := .Eq) (tb := .ref C) sb.room.units0 hF I.ok.mod.kin J J'.type (by simp [PySem.W.notFirst]) o.eq o.fn (wpAny_mono (own_call F hb (sb.mono (by omega)) I hsp) (fun v s' hv => ?_) fun _ _ e => e)
  obtain ⟨z, H', I', rz, t, rfl, q⟩ := hv
  cases rz
  exact ⟨.bl t, H', I', rfl, by simpa using q⟩
end
/-! ### over the store -/
/-- == (neg false) or != of two objects of the class c by its own ==, else by what they hold -/
def vOwn (neg : Bool) (c : Nat) (mf : List Vl → Sto → Out Vl) (g : Vl → Vl → Sto → Out Vl) (x y : Vl) (S : Sto) : Out Vl := match x, y with
  | .ref i, .ref j => match S[i]?, S[j]? with
    | some (.ins c1 _), some (.ins c2 _) => if c1 = c ∧ c2 = c then (match mf [.ref i, .ref j] S with
      | .ok (.bl t) S' => .ok (.bl (xor neg t)) S'
      | _ => .bad) else .bad
    | _, _ => g x y S
  | _, _ => g x y S
theorem ops_own {N : Nms} {K : PySem.W.Frag} {neg : Bool} {c : Nat} {np : Nat} {mf : List Vl → Sto → Out Vl} {r : R2} {g : Vl → Vl → Sto → Out Vl} (hnp : np = 2) (hg : OpS N K r g) : OpS N K (rOr (rOwn neg (He.ga K (N.g c)) (spM N K np mf)) r) (vOwn neg c mf g) := by
  intro m S H x y u w Q E s rx ry h
  unfold vOwn at h
  split at h
  · rename_i i j
    split at h
    · rename_i c1 f1 c2 f2 h1 h2
      split at h
      · rename_i hc
        obtain ⟨rfl, rfl⟩ := hc
        have rx' := rx
        have ry' := ry
        obtain ⟨a, rfl, hm⟩ := rx.ref'
        obtain ⟨b, rfl, hm'⟩ := ry.ref'
        obtain ⟨u1, e1, o1⟩ := s.at_ hm h1
        obtain ⟨u2, e2, o2⟩ := s.at_ hm' h2
        cases o1
        cases o2
        refine .inl ⟨a, b, _, _, _, _, rfl, rfl, e1, e2, m, S, [.ref i, .ref j], by rw [hnp]; rfl, s, .cons rx' (.cons ry' .nil), ?_⟩
        split at h
        · rename_i t S' e
          rw [e]
          intro m' H' v e' s' r'
          cases r'
          exact ⟨t, rfl, h.to e' s' (.bl _)⟩
        · exact h.elim
      · exact h.elim
    · exact .inr (hg m S H _ _ u w Q E s rx ry h)
  · exact .inr (hg m S H _ _ u w Q E s rx ry h)
section
variable {N : Nms} {X : Cx} {n c : Nat} {f : Addr} {T : FuncData → Prop} {ps : List Str} {mf : List Vl → Sto → Out Vl} {g : Vl → Vl → Sto → Out Vl} {gL : List Vl → List Vl → List Vl}
theorem opm_neOwn (D : FnM N X.prog X.w X.K X.mg X.base CX0 n f T ps mf) (o : OwnE X.K (He.ga X.K (N.g c)) f) (hp : ps.length = 2) (hbn : ∀ fd, T fd → Binds X.K fd ps []) (hr : Room (n + 1) X.A) (hg : OpM N X (compareOp .NotEq) g) : OpM N X (compareOp .NotEq) (vOwn true c mf g) := by
  obtain ⟨fd, hT, _, F⟩ := D.ex
  obtain ⟨r, h1, h2⟩ := hg.ex
  exact ⟨_, (op_neOwn F o (hbn fd hT) hr).or h1, ops_own hp h2⟩
theorem opm_eqOwn (D : FnM N X.prog X.w X.K X.mg X.base CX0 n f T ps mf) (o : OwnE X.K (He.ga X.K (N.g c)) f) (hp : ps.length = 2) (hbn : ∀ fd, T fd → Binds X.K fd ps []) (hr : Room (n + 1) X.A) (hg : OpM N X (compareOp .Eq) g) : OpM N X (compareOp .Eq) (vOwn false c mf g) := by
  obtain ⟨fd, hT, _, F⟩ := D.ex
  obtain ⟨r, h1, h2⟩ := hg.ex
  exact ⟨_, (op_eqOwn F o (hbn fd hT) hr).or h1, ops_own hp h2⟩
end
/-! ### isinstance with an own class -/
/-- isinstance(x, C), x of the class C -/
def vIsO (c : Nat) (vs : List Vl) (S : Sto) : Out Vl := match vs with
  | [.ref i, .fn k] => match S[i]? with
    | some (.ins c1 _) => if c1 = c ∧ k = c then .ok (.bl true) S else .bad
    | _ => .bad
  | _ => .bad
theorem cm_isO {N : Nms} {X : Cx} {c : Nat} {f : Addr} (cl : Cls X.K (He.ga X.K (N.g c))) (o : OwnE X.K (He.ga X.K (N.g c)) f) : CallM N X (.builtin "isinstance") (vIsO c) := by
  refine ⟨_, call_isi, fun m S H xs us Q E s r h => ?_⟩
  unfold vIsO at h
  split at h
  · rename_i i k
    obtain ⟨u, w, rfl, ru, rw'⟩ := r.two
    cases rw'
    obtain ⟨a, rfl, hm⟩ := ru.ref'
    split at h
    · rename_i c1 f1 h1
      split at h
      · rename_i hc
        obtain ⟨rfl, rfl⟩ := hc
        obtain ⟨u1, e1, o1⟩ := s.at_ hm h1
        cases o1
        exact ⟨.ref a, .ref _, .ref _, .ref _, true, rfl, .own _, .base (.ins e1 cl o.ha o.hn o.htk o.hm), o.self, h.ok s (.bl _)⟩
      · exact h.elim
    · exact h.elim
  · exact h.elim
/-! ### a list times a number -/
theorem Vrs.rep {N : Nms} {K : PySem.W.Frag} {m : List Addr} {H : Hp} {xs : List Vl} {us : List V} (r : Vrs N K m H xs us) : ∀ k : Nat, Vrs N K m H (List.replicate k xs).flatten (List.replicate k us).flatten
  | 0 => .nil
  | k + 1 => by
    rw [List.replicate_succ, List.replicate_succ, List.flatten_cons, List.flatten_cons]
    exact r.append (Vrs.rep r k)
def vMulL (x y : Vl) (S : Sto) : Out Vl := match x, y with
  | .ref i, .int k => match S[i]? with
    | some (.lst xs) => if (-4611686018427387904 ≤ k ∧ k < 4611686018427387904) ∧ xs.length * k.toNat ≤ 100000 then .ok (.ref S.length) (S ++ [.lst (List.replicate k.toNat xs).flatten]) else .bad
    | _ => .bad
  | _, _ => .bad
theorem opm_mulL {N : Nms} {X : Cx} : OpM N X (binaryOp .Mult) vMulL := by
  refine ⟨_, op_rep, fun m S H x y u w Q E s rx ry h => ?_⟩
  unfold vMulL at h
  split at h
  · rename_i i k
    cases ry
    obtain ⟨a, rfl, hm⟩ := rx.ref'
    split at h
    · rename_i xs hS
      split at h
      · rename_i q
        obtain ⟨ys, h1, h2⟩ := s.lst hm hS
        exact ⟨a, k, ys, rfl, rfl, h1, by omega, by omega, sz_of (by rw [← h2.len]; exact q.2), fun p hp => h.to (Ext.app (Same.new hp)) (s.new (Same.new hp) hp upd_same (.lst (h2.rep _))) s.ref_new⟩
      · exact h.elim
    · exact h.elim
  · exact h.elim
end Nt

namespace Nt
open PySem PySem.Spec PyProof.Rows L2 Evl
/-! ### other names for the same -/
section
variable {N N' : Nms} {K : PySem.W.Frag} {m : List Addr} {H : Hp}
mutual
theorem Vr.nm (hg : ∀ k, N.g k = N'.g k) : ∀ {x : Vl} {u : V}, Vr N K m H x u → Vr N' K m H x u
  | _, _, .non => .non
  | _, _, .bl b => .bl b
  | _, _, .int b => .int b
  | _, _, .str b => .str b
  | _, _, .ty b => .ty b
  | _, _, .tup h r => .tup h (Vrs.nm hg r)
  | _, _, .ktp h r => .ktp h (Vrs.nm hg r)
  | _, _, .ref h => .ref h
  | _, _, .fn k => by rw [hg k]; exact .fn k
  | _, _, .scr h => .scr h
theorem Vrs.nm (hg : ∀ k, N.g k = N'.g k) : ∀ {x : List Vl} {u : List V}, Vrs N K m H x u → Vrs N' K m H x u
  | _, _, .nil => .nil
  | _, _, .cons h r => .cons (Vr.nm hg h) (Vrs.nm hg r)
end
theorem KR.nm {κ : Type} (hg : ∀ k, N.g k = N'.g k) : ∀ {x : List (κ × Vl)} {u : List (κ × V)}, KR N K m H x u → KR N' K m H x u
  | _, _, .nil => .nil
  | _, _, .cons h r => .cons (h.nm hg) (KR.nm hg r)
theorem FR.nm (hg : ∀ k, N.g k = N'.g k) (hf : ∀ k, N.f k = N'.f k) : ∀ {x : List (Nat × Vl)} {u : List (Str × V)}, FR N K m H x u → FR N' K m H x u
  | _, _, .nil => .nil
  | _, _, .cons (k := k) h r => by rw [hf k]; exact .cons (h.nm hg) (FR.nm hg hf r)
theorem ObR.nm (hg : ∀ k, N.g k = N'.g k) (hf : ∀ k, N.f k = N'.f k) {o : Ob} {u : HO} : ObR N K m H o u → ObR N' K m H o u
  | .lst h => .lst (h.nm hg)
  | .dk h => .dk (h.nm hg)
  | .dt h => .dt (h.nm hg)
  | .ins (c := c) h => by rw [hg c]; exact .ins (h.nm hg hf)
  | .xd h => .xd (h.nm hg hf)
theorem SR.nm {S : Sto} (hg : ∀ k, N.g k = N'.g k) (hf : ∀ k, N.f k = N'.f k) (s : SR N K m S H) : SR N' K m S H := ⟨s.len, s.inj, fun i o h => by
  obtain ⟨a, u, h1, h2, h3⟩ := s.ob i o h
  exact ⟨a, u, h1, h2, h3.nm hg hf⟩⟩
theorem Post.nm {Q : VK} {E : XK} {o : Out Vl} (hg : ∀ k, N.g k = N'.g k) (hf : ∀ k, N.f k = N'.f k) (h : Post N K (Vr N K) m H Q E o) : Post N' K (Vr N' K) m H Q E o := by
  cases o with
  | ok v S => exact fun m' H' u e s r => h m' H' u e (s.nm (fun k => (hg k).symm) fun k => (hf k).symm) (r.nm fun k => (hg k).symm)
  | err c x S => exact fun m' H' d e s xd => by rw [← hg c]; exact h m' H' d e (s.nm (fun k => (hg k).symm) fun k => (hf k).symm) xd
  | bad => exact h
end
section
variable {N : Nms} {K : PySem.W.Frag} {m : List Addr} {H : Hp} {i : Nat} {a : Addr} {x : Vl} {u : V} {xs : List Vl} {us : List V} {S : Sto}
theorem Vr.toH (h : Vr N K m H x u) : Vr (N.hld i a) K m H x u := Vr.nm (N := N) (N' := N.hld i a) (fun _ => rfl) h
theorem Vr.ofH (h : Vr (N.hld i a) K m H x u) : Vr N K m H x u := Vr.nm (N := N.hld i a) (N' := N) (fun _ => rfl) h
theorem Vrs.ofH (h : Vrs (N.hld i a) K m H xs us) : Vrs N K m H xs us := Vrs.nm (N := N.hld i a) (N' := N) (fun _ => rfl) h
theorem SR.toH (h : SR N K m S H) : SR (N.hld i a) K m S H := SR.nm (N := N) (N' := N.hld i a) (fun _ => rfl) (fun _ => rfl) h
theorem SR.ofH (h : SR (N.hld i a) K m S H) : SR N K m S H := SR.nm (N := N.hld i a) (N' := N) (fun _ => rfl) (fun _ => rfl) h
theorem Post.ofH {Q : VK} {E : XK} {o : Out Vl} (h : Post (N.hld i a) K (Vr (N.hld i a) K) m H Q E o) : Post N K (Vr N K) m H Q E o := Post.nm (N := N.hld i a) (N' := N) (fun _ => rfl) (fun _ => rfl) h
end
/-- a def's promise under the names of a suite -/
theorem FnM.hld {N : Nms} {P : Program} {w : World} {K : PySem.W.Frag} {mg : Str → Option Value} {base : Heap} {CX : CXT} {k i : Nat} {a f : Addr} {T : FuncData → Prop} {ps : List Str} {mf : List Vl → Sto → Out Vl} (D : FnM N P w K mg base CX k f T ps mf) : FnM (N.hld i a) P w K mg base CX k f T ps mf := by
  obtain ⟨fd, h1, h2, h3⟩ := D.ex
  refine ⟨fd, h1, h2, h3.imp fun vs H Q E ⟨m, S, args, q1, q2, q3, q4⟩ => ⟨m, S, args, q1, q2.ofH, q3.ofH, q4.ofH⟩⟩
section
variable {N : Nms} {K : PySem.W.Frag} {m : List Addr} {H : Hp} {env : En} {σ : L2.St} {i : Nat} {a : Addr}
theorem EnR.suite (h : EnR N K m H env σ) (hi : i < env.length) : EnR (N.hld i a) K m H (env.set i Option.none) (σ.set i (some (.ref a))) := by
  refine ⟨by rw [List.length_set, List.length_set]; exact h.len, fun j w q => ?_, fun j b e => ?_⟩
  · rw [List.getElem?_set] at q
    rw [List.getElem?_set]
    split at q
    · first | cases q | (split at q <;> cases q)
    · rename_i z
      rw [if_neg z]
      obtain ⟨u, h1, h2⟩ := h.at_ j w q
      exact ⟨u, h1, h2.toH⟩
  · cases e
    rw [List.getElem?_set, if_pos rfl, if_pos (by rw [← h.len]; exact hi)]
theorem EnR.out (h0 : N.xh = Option.none) (h : EnR (N.hld i a) K m H env σ) : EnR N K m H (env.set i Option.none) (σ.set i Option.none) := by
  refine ⟨by rw [List.length_set, List.length_set]; exact h.len, fun j w q => ?_, fun j b e => by rw [h0] at e; cases e⟩
  rw [List.getElem?_set] at q
  rw [List.getElem?_set]
  split at q
  · split at q <;> cases q
  · rename_i z
    rw [if_neg z]
    obtain ⟨u, h1, h2⟩ := h.at_ j w q
    exact ⟨u, h1, h2.ofH⟩
end
/-! ### try .. except C as e -/
def cSs (N : Nms) (K : PySem.W.Frag) (W : L2.St → XK) (f : ZS) : TS := fun D σ H => ∃ m S env, SR N K m S H ∧ EnR N K m H env σ ∧ PostS N K m H D W (f env S)
theorem SSs.pss {N : Nms} {X : Cx} {W : L2.St → XK} {st : List Stmt} {f : ZS} (h : SSs N X W st f) : PSs X st (cSs N X.K W f) := by
  obtain ⟨t, p, sm⟩ := h.ex
  exact ⟨fun pins s σ H D I ⟨m, S, env, s1, er, hp⟩ => p.run pins s σ H D I (sm m S H env σ D s1 er hp)⟩
def outS (i : Nat) (o : Out Fl) : Out Fl := match o with
  | .ok (.nx e) S => .ok (.nx (e.set i none)) S
  | .ok (.rt v) S => .ok (.rt v) S
  | _ => .bad
def catchZ (i : Nat) (mt : Nat → Option Bool) (fs : Nat → ZS) (o : Out Fl) : Out Fl := match o with
  | .ok (.er c x e) S => match mt c, x with
    | some true, none => if i < e.length then outS i (fs c (e.set i none) S) else .bad
    | some false, _ => .ok (.er c x e) S
    | _, _ => .bad
  | o => o
def zTryAs (i : Nat) (mt : Nat → Option Bool) (fb : ZS) (fs : Nat → ZS) : ZS := fun env S => catchZ i mt fs (fb env S)
section
variable {N : Nms} {X : Cx} {W : L2.St → XK} {x n : Str} {C : Addr} {i : Nat} {body suite : List Stmt} {b₀ : Stmt} {np pos pos' : Pos} {mt : Nat → Option Bool} {fb : ZS} {fs : Nat → ZS}
theorem ss_tryAs (hs : X.stack = X.env :: X.outer) (hf : X.env.frame = some X.env.locals) (hN : X.N.Nodup) (hi : X.N[i]? = some n) (hln : X.env.kindOf n = some .local) (hc : Names X x (.ref C)) (tk : Takes X (fun cls d σ H => W σ cls d H))
    (hm : ∀ c b, mt c = some b → PySem.W.exmOne X.K (.ref (He.ga X.K (N.g c))) (.ref C) = some b)
    (hb : ∀ (W' : WX) (pn : List (Addr × Obj)) (xe : Value → Shared → Prop), Takes (X.tr pn xe) W' → PassesOwn (model X.prog X.w) X.A X.env xe → SSs N (X.tr pn xe) (fun σ cls d H => W' cls d σ H) body fb)
    (hsu : ∀ c, mt c = some true → ∀ (a : Addr) (oe : Obj) (pn : List (Addr × Obj)), Zc (.ref (He.ga X.K (N.g c))) none oe → (∃ vs, oe.data = .fields vs) → SSs (N.hld i a) (X.suite a ((a, oe) :: pn)) (fun _ => E0) (b₀ :: suite) (fs c)) (h0 : N.xh = none := by rfl) :
    SS N X W (.Try body [.ExceptHandler (some (.Name x np)) (some n) (b₀ :: suite) pos'] [] [] pos) (zTryAs i mt fb fs) := by
  refine ⟨_, ps_try_as (tb := fun W' => cSs N X.K (fun σ cls d H => W' cls d σ H) fb) (ts := fun a cls d D σ H => ∃ c m S env, mt c = some true ∧ cls = .ref (He.ga X.K (N.g c)) ∧ d = none ∧ SR (N.hld i a) X.K m S H ∧ EnR (N.hld i a) X.K m H env σ ∧ PostS (N.hld i a) X.K m H D (fun _ => E0) (fs c env S)) hs hf hN hi hln hc tk (fun W' pn xe h1 h2 => (hb W' pn xe h1 h2).pss) (fun a oe cls d pn hz hv => ⟨fun pins s σ H D I ⟨c, m, S, env, h1, h2, h3, h4, h5, h6⟩ => ?_⟩), fun m S H env σ D s er h => ⟨m, S, env, s, er, ?_⟩⟩
  · subst h2
    subst h3
    obtain ⟨t, p, sm⟩ := (hsu c h1 a oe pn hz hv).ex
    exact p.run pins s σ H D I (sm m S H env σ D h4 h5 h6)
  · have h : PostS N X.K m H D W (catchZ i mt fs (fb env S)) := h
    cases ho : fb env S with
    | bad => rw [ho] at h; exact h
    | err c x S1 => rw [ho] at h; exact h
    | ok fl S1 =>
      rw [ho] at h
      cases fl with
      | nx e => exact h
      | rt v => exact h
      | bk e => exact h
      | ct e => exact h
      | er c x e =>
        intro m' H' d σ' e' s' er' xd
        unfold catchZ at h
        dsimp only at h
        split at h
        · rename_i hmt
          split at h
          · rename_i hlt
            refine ⟨true, hm c true hmt, fun _ a ha => ?_, fun z => (by cases z)⟩
            have hd : d = none := by cases d with
              | none => rfl
              | some b => exact xd.elim
            refine ⟨c, m', S1, e.set i none, hmt, rfl, hd, s'.toH, er'.suite hlt, ?_⟩
            cases hr : fs c (e.set i none) S1 with
            | bad => rw [hr] at h; exact h
            | err c2 x2 S2 => rw [hr] at h; exact h.elim
            | ok fl S2 =>
              rw [hr] at h
              cases fl with
              | nx e2 => exact fun m2 H2 σ2 e3 s3 er3 => h m2 H2 (σ2.set i none) (e'.trans e3) s3.ofH (er3.out h0)
              | rt v => exact fun m2 H2 u e3 s3 r3 => h m2 H2 u (e'.trans e3) s3.ofH r3.ofH
              | bk e2 => exact h.elim
              | ct e2 => exact h.elim
              | er c2 x2 e2 => exact h.elim
          · exact h.elim
        · rename_i hmt
          exact ⟨false, hm c false hmt, fun z => (by cases z), fun _ => h m' H' d σ' e' s' er' xd⟩
        · exact h.elim
end
/-! ### isinstance of the caught exception -/
def xIsE (ans : Vl → Option Bool) (f2 : XE') : XE' := fun env S => (f2 env S).bind fun v S1 => match ans v with
  | some b => .ok (.bl b) S1
  | none => .bad
def AnsOk (N : Nms) (K : PySem.W.Frag) (D : Addr) (v : Vl) (b : Bool) : Prop := (∃ k, v = .fn k ∧ PySem.W.kitOne K (.ref D) (.ref (He.ga K (N.g k))) = some b) ∨ (∃ t, v = .ty t ∧ PySem.W.kitOne K (.ref D) (.type t) = some b) ∨
  ∃ ks : List Nat, v = .tup (ks.map .fn) ∧ PySem.W.kitAny K (.ref D) (ks.map fun k => .ref (He.ga K (N.g k))) = some b
theorem fns_pair {N : Nms} {K : PySem.W.Frag} {m : List Addr} {H : Hp} : ∀ {ks : List Nat} {us : List V}, Vrs N K m H (ks.map .fn) us → Paired ClsV us (ks.map fun k => Value.ref (He.ga K (N.g k)))
  | [], _, .nil => .nil
  | k :: ks, _, .cons h r => by
    cases h
    exact .cons (.own _) (fns_pair r)
theorem se_isE {N : Nms} {X : Cx} {W : L2.St → XK} {a : Addr} {oe : Obj} {pn : List (Addr × Obj)} {c i : Nat} {n : Str} {e2 : Expr} {f2 : XE'} {ans : Vl → Option Bool} {p p' pos : Pos} (hE : ExcC X.K (He.ga X.K (N.g c))) (hz : Zc (.ref (He.ga X.K (N.g c))) none oe) (hv : ∃ vs, oe.data = .fields vs)
    (hi : X.N[i]? = some n) (hvis : Vis X.env.scope n) (hg : Gl X "isinstance") (hm : X.mg "isinstance" = none) (h2 : SE (N.hld i a) (X.suite a ((a, oe) :: pn)) W e2 f2) (hans : ∀ v b, ans v = some b → AnsOk N X.K (He.ga X.K (N.g c)) v b)
    (hd : (n == ("__debug__" : Str)) = false := by decide) (hcd : (n == ("__classdict__" : Str)) = false := by decide)
    (he1 : starEach (.Name n p' :: [e2]) (X.suite a ((a, oe) :: pn)).env = (false, eval (.Name n p') (X.suite a ((a, oe) :: pn)).env) :: starEach [e2] (X.suite a ((a, oe) :: pn)).env := by rfl)
    (he2 : starEach (e2 :: []) (X.suite a ((a, oe) :: pn)).env = (false, eval e2 (X.suite a ((a, oe) :: pn)).env) :: starEach [] (X.suite a ((a, oe) :: pn)).env := by rfl)
    (hpl : (backTo pos (starEach [e2] (X.suite a ((a, oe) :: pn)).env)).any (·.1) = false := by rfl) : SE (N.hld i a) (X.suite a ((a, oe) :: pn)) W (.Call (.Name "isinstance" p) [.Name n p', e2] [] pos) (xIsE ans f2) := by
  obtain ⟨t2, p2, s2⟩ := h2.ex
  refine ⟨_, pe_callB ((call_isE hE hz hv).or (call_isET hE hz hv)) hg hm rfl (pa_cons (pe_var hi hvis hd hcd) (pa_cons p2 pa_nil he2) he1) (by decide) (by decide) he1 hpl, fun m S H env σ Q s er h => ⟨.ref a, er.hd i a rfl, s2.step s er h fun y S1 m1 H1 u e1 sr1 r1 er1 k1 => ?_⟩⟩
  show _ ∨ _
  split at k1
  · rename_i b hb
    rcases hans y b hb with ⟨k, rfl, hk⟩ | ⟨t, rfl, ht⟩ | ⟨ks, rfl, hk⟩
    · cases r1
      exact .inl ⟨_, _, b, rfl, fun u ru => by cases ru; rfl, hk, k1.ok sr1 (.bl b)⟩
    · cases r1
      exact .inl ⟨_, _, b, rfl, fun u ru => by cases ru; rfl, ht, k1.ok sr1 (.bl b)⟩
    · obtain ⟨tp, ys, rfl, h1, h3⟩ := r1.tup'
      exact .inr ⟨tp, ys, _, b, rfl, h1, fns_pair h3, hk, k1.ok sr1 (.bl b)⟩
  · exact k1.elim
/-! ### how often, where first: lists of truths -/
def rCount (K : PySem.W.Frag) : V → List V → Hp → VK → Prop := fun x xs H Q => ∃ (a : Addr) (ys : List V) (y : V), x = V.ref a ∧ xs = [y] ∧ SqL K H a ys ∧ flatV y = true ∧ ys.all flatV = true ∧ Q (.int ((ys.countP fun z => eqV z y : Nat) : Int)) H
theorem countU {y : V} : ∀ {ys : List V} {its : List Value}, Vals ys its → ys.all flatV = true → its.countP (eqU y) = ys.countP fun z => eqV z y
  | _, _, .nil, _ => rfl
  | _, _, .cons r rs, h => by
    rw [List.all_cons, Bool.and_eq_true] at h
    rw [List.countP_cons, List.countP_cons, countU rs h.2, eqU_of r h.1]
theorem mt_count {X : Cx} : MtR X "list.count" (rCount X.K) := by
  intro pins s σ H x xs v us Q I rx rxs h
  obtain ⟨a, ys, y, rfl, rfl, hs, fy, fys, q⟩ := h
  cases rx
  cases rxs with
  | cons ry rt =>
    rename_i uy ut
    cases rt
    obtain ⟨its, rv, ⟨⟨cls, dd, data, sl⟩, n, ho, hc, hdn, hd⟩, hlen⟩ := I.list hs
    simp only at hc hd
    subst hc hd
    refine call_meets PySem.F.slot_list_count ⟨_, ho, rfl⟩ PySem.F.entry_list_count (PySem.F.args_list_count_2 _ _) (SeqAt.list_countAt a its.toArray n dd sl uy (eqU y)) ⟨ho, fun u' hu' => mem_eqAt ry fy rv fys u' (by simpa using hu'), ?_⟩
    rw [show its.toArray.toList = its from rfl, countU rv fys]
    exact ⟨.int _, H, I.tok _, ⟨_, rfl⟩, q⟩
def tbl (bs : List Bool) : List Vl := bs.map .bl
def mCount (x : Vl) (xs : List Vl) (S : Sto) : Out Vl := match x, xs with
  | .ref i, [.bl b] => match S[i]? with
    | some (.lst l) => match toBools l with
      | some bs => .ok (.int ((bs.countP fun z => z == b : Nat) : Int)) S
      | none => .bad
    | _ => .bad
  | _, _ => .bad
theorem bools_vr {N : Nms} {K : PySem.W.Frag} {m : List Addr} {H : Hp} : ∀ {l : List Vl} {bs : List Bool} {us : List V}, toBools l = some bs → Vrs N K m H l us → us = bs.map .bl
  | [], _, _, e, .nil => by cases e; rfl
  | .bl b :: l, _, _, e, .cons h r => by
    cases h
    cases q : toBools l with
    | none => rw [toBools, q] at e; cases e
    | some bs =>
      rw [toBools, q] at e
      cases e
      rw [bools_vr q r]; rfl
theorem flat_bools : ∀ {bs : List Bool}, (bs.map V.bl).all flatV = true
  | [] => rfl
  | b :: bs => by rw [List.map_cons, List.all_cons, flat_bools]; rfl
theorem eqV_bl {a b : Bool} : eqV (.bl a) (.bl b) = (a == b) := by cases a <;> cases b <;> rfl
theorem count_bools {b : Bool} : ∀ {bs : List Bool}, ((bs.map V.bl).countP fun z => eqV z (.bl b)) = bs.countP fun z => z == b
  | [] => rfl
  | c :: bs => by rw [List.map_cons, List.countP_cons, List.countP_cons, count_bools, eqV_bl]
theorem mm_count {N : Nms} {X : Cx} : MtMM N X "list.count" mCount := by
  refine ⟨_, mt_count, fun m S H x xs u us Q E s rx rs h => ?_⟩
  unfold mCount at h
  split at h
  · obtain ⟨a, rfl, hm⟩ := rx.ref'
    obtain ⟨w, rfl, rw'⟩ := rs.one
    cases rw'
    split at h
    · rename_i l hS
      split at h
      · rename_i bs hb
        obtain ⟨ys, h1, h2⟩ := s.lst hm hS
        have e := bools_vr hb h2
        subst e
        refine ⟨a, _, _, rfl, rfl, .inl (.inl h1), rfl, flat_bools, ?_⟩
        rw [count_bools]
        exact h.ok s (.int _)
      · exact h.elim
    · exact h.elim
  · exact h.elim
def firstB (b : Bool) : List Bool → Option Nat
  | [] => none
  | c :: bs => if c = b then some 0 else (firstB b bs).map (· + 1)
theorem firstB_ok {b : Bool} : ∀ {bs : List Bool} {j : Nat}, firstB b bs = some j → (bs.map V.bl)[j]? = some (.bl b) ∧ ∀ (m : Nat) (z : V), m < j → (bs.map V.bl)[m]? = some z → eqV z (.bl b) = false
  | c :: bs, j, h => by
    rw [firstB] at h
    split at h
    · rename_i e
      cases h
      rw [e]
      exact ⟨rfl, fun m z hm => absurd hm (Nat.not_lt_zero _)⟩
    · rename_i e
      cases q : firstB b bs with
      | none => rw [q] at h; cases h
      | some k =>
        rw [q] at h
        cases h
        obtain ⟨h1, h2⟩ := firstB_ok q
        refine ⟨h1, fun m z hm hz => ?_⟩
        cases m with
        | zero => cases hz; rw [eqV_bl]; cases c <;> cases b <;> first | rfl | exact absurd rfl e
        | succ m => exact h2 m z (Nat.lt_of_succ_lt_succ hm) hz
def mIndex (x : Vl) (xs : List Vl) (S : Sto) : Out Vl := match x, xs with
  | .ref i, [.bl b] => match S[i]? with
    | some (.lst l) => match toBools l with
      | some bs => match firstB b bs with
        | some j => .ok (.int (j : Nat)) S
        | none => .bad
      | none => .bad
    | _ => .bad
  | _, _ => .bad
theorem mm_index {N : Nms} {X : Cx} : MtMM N X "list.index" mIndex := by
  refine ⟨_, mt_index, fun m S H x xs u us Q E s rx rs h => ?_⟩
  unfold mIndex at h
  split at h
  · obtain ⟨a, rfl, hm⟩ := rx.ref'
    obtain ⟨w, rfl, rw'⟩ := rs.one
    cases rw'
    split at h
    · rename_i l hS
      split at h
      · rename_i bs hb
        split at h
        · rename_i j hj
          obtain ⟨ys, h1, h2⟩ := s.lst hm hS
          have e := bools_vr hb h2
          subst e
          obtain ⟨g1, g2⟩ := firstB_ok hj
          exact ⟨a, _, _, j, _, rfl, rfl, .inl (.inl h1), rfl, flat_bools, g1, by rw [eqV_bl]; simp, g2, h.ok s (.int _)⟩
        · exact h.elim
      · exact h.elim
    · exact h.elim
  · exact h.elim
/-! ### tables of classes -/
inductive LkA {κ : Type} (P : κ → Bool → Prop) : List (κ × Bool) → Prop
  | nil : LkA P []
  | cons {k : κ} {b : Bool} {r : List (κ × Bool)} : P k b → LkA P r → LkA P ((k, b) :: r)
theorem lk_ok {κ : Type} [BEq κ] [LawfulBEq κ] {P : κ → Bool → Prop} : ∀ {t : List (κ × Bool)}, LkA P t → ∀ k b, t.lookup k = some b → P k b
  | _, .nil, k, b, h => by cases h
  | _, .cons (k := k') (b := b') hp r, k, b, h => by
    rw [List.lookup_cons] at h
    split at h
    · rename_i e
      cases h
      rw [eq_of_beq e]
      exact hp
    · exact lk_ok r k b h
def anyF (t1 : List ((Nat × Nat) × Bool)) (c : Nat) : List Vl → Option Bool
  | [] => some false
  | .fn k :: r => match t1.lookup (c, k) with
    | some true => some true
    | some false => anyF t1 c r
    | none => none
  | _ => none
def ansOf (t1 : List ((Nat × Nat) × Bool)) (t2 : List ((Nat × String) × Bool)) (c : Nat) : Vl → Option Bool
  | .fn k => t1.lookup (c, k)
  | .ty t => t2.lookup (c, t)
  | .tup vs => if vs.all (fun v => match v with | .fn _ => true | _ => false) = true then anyF t1 c vs else none
  | _ => none
theorem fns_of : ∀ {vs : List Vl}, vs.all (fun v => match v with | .fn _ => true | _ => false) = true → ∃ ks : List Nat, vs = ks.map .fn
  | [], _ => ⟨[], rfl⟩
  | v :: vs, h => by
    rw [List.all_cons, Bool.and_eq_true] at h
    obtain ⟨ks, e⟩ := fns_of h.2
    cases v with
    | fn k => exact ⟨k :: ks, by rw [e]; rfl⟩
    | _ => exact absurd h.1 Bool.false_ne_true
theorem ans_ok {N : Nms} {K : PySem.W.Frag} {t1 : List ((Nat × Nat) × Bool)} {t2 : List ((Nat × String) × Bool)} (h1 : LkA (fun p b => PySem.W.kitOne K (.ref (He.ga K (N.g p.1))) (.ref (He.ga K (N.g p.2))) = some b) t1) (h2 : LkA (fun p b => PySem.W.kitOne K (.ref (He.ga K (N.g p.1))) (.type p.2) = some b) t2) (c : Nat) :
    ∀ v b, ansOf t1 t2 c v = some b → AnsOk N K (He.ga K (N.g c)) v b := by
  intro v b h
  cases v with
  | fn k => exact .inl ⟨k, rfl, lk_ok h1 (c, k) b h⟩
  | ty t => exact .inr (.inl ⟨t, rfl, lk_ok h2 (c, t) b h⟩)
  | tup vs =>
    rw [ansOf] at h
    split at h
    · rename_i hf
      obtain ⟨ks, rfl⟩ := fns_of hf
      refine .inr (.inr ⟨ks, rfl, ?_⟩)
      clear hf
      induction ks with
      | nil => cases h; rfl
      | cons k ks ih =>
        rw [List.map_cons, anyF] at h
        rw [List.map_cons]
        split at h
        · rename_i q
          cases h
          exact kitAny_cons (lk_ok h1 (c, k) true q) (fun z => by cases z) (fun _ => rfl)
        · rename_i q
          exact kitAny_cons (lk_ok h1 (c, k) false q) (fun _ => ih h) (fun z => by cases z)
        · cases h
    · cases h
  | _ => cases h
end Nt

namespace Nt
open PySem PySem.Spec PyProof.Rows L2 Evl
/-! ### evaluation, one thing after another -/
section
variable {env e : En} {S S1 : Sto} {a b c o r : XE'} {f g : ZS} {t u : XT} {aa ak : XA} {ab : XB} {gm gm2 : GM} {gs : GMs} {x y z v : Vl} {xs ys zs : List Vl} {i j k n np nk : Nat} {q : Option Nat} {cs : List Nat} {bl : Bool} {og : Vl → Vl → Sto → Out Vl} {ug : Vl → Sto → Out Vl} {cg : List Vl → Sto → Out Vl} {gL : List Vl → List Vl → List Vl} {tb : List (Nat × MT)} {M : MT} {fs : List (Nat × Vl)}
/- statements -/
def sq (o : Out Fl) (g : ZS) : Out Fl := match o with
  | .ok (.nx e) S => g e S
  | o => o
theorem zSeq_e : zSeq f g env S = sq (f env S) g := rfl
theorem sq_nx : sq (.ok (.nx e) S) g = g e S := rfl
theorem sq_rt : sq (.ok (.rt v) S) g = .ok (.rt v) S := rfl
theorem sq_bk : sq (.ok (.bk e) S) g = .ok (.bk e) S := rfl
theorem sq_ct : sq (.ok (.ct e) S) g = .ok (.ct e) S := rfl
theorem sq_er : sq (.ok (.er k q e) S) g = .ok (.er k q e) S := rfl
theorem sq_bad : sq .bad g = .bad := rfl
theorem zNil_e : zNil env S = .ok (.nx env) S := rfl
theorem zBrk_e : zBrk env S = .ok (.bk env) S := rfl
theorem zCnt_e : zCnt env S = .ok (.ct env) S := rfl
theorem zRaise_e : zRaise k env S = .ok (.er k none env) S := rfl
def kNx (o : Out En) (env : En) : Out Fl := o.bindS env fun e S => .ok (.nx e) S
theorem kNx_ok : kNx (.ok e S) env = .ok (.nx e) S := rfl
theorem kNx_err : kNx (.err k q S) env = .ok (.er k q env) S := rfl
def kAsg (o : Out Vl) (env : En) (gm : GM) : Out Fl := o.bindS env fun v S => kNx (gm v env S) env
theorem zAsg_e : zAsg a gm env S = kAsg (a env S) env gm := rfl
theorem kAsg_ok : kAsg (.ok v S) env gm = kNx (gm v env S) env := rfl
theorem kAsg_err : kAsg (.err k q S) env gm = .ok (.er k q env) S := rfl
def kDrop (o : Out Vl) (env : En) : Out Fl := o.bindS env fun _ S => .ok (.nx env) S
theorem zDrop_e : zDrop a env S = kDrop (a env S) env := rfl
theorem kDrop_ok : kDrop (.ok v S) env = .ok (.nx env) S := rfl
theorem kDrop_err : kDrop (.err k q S) env = .ok (.er k q env) S := rfl
def kRet (o : Out Vl) (env : En) : Out Fl := o.bindS env fun v S => .ok (.rt v) S
theorem zRet_e : zRet a env S = kRet (a env S) env := rfl
theorem kRet_ok : kRet (.ok v S) env = .ok (.rt v) S := rfl
theorem kRet_err : kRet (.err k q S) env = .ok (.er k q env) S := rfl
def kIf (o : Out Bool) (env : En) (f g : ZS) : Out Fl := o.bindS env fun b S => if b = true then f env S else g env S
theorem zIf_e : zIf t f g env S = kIf (t env S) env f g := rfl
theorem kIf_t : kIf (.ok true S) env f g = f env S := rfl
theorem kIf_f : kIf (.ok false S) env f g = g env S := rfl
theorem kIf_err : kIf (.err k q S) env f g = .ok (.er k q env) S := rfl
def kAug (o : Out Vl) (env : En) (i : Nat) (x : Vl) (og : Vl → Vl → Sto → Out Vl) : Out Fl := o.bindS env fun y S1 => (og x y S1).bindS env fun z S2 => .ok (.nx (env.set i (some z))) S2
def kAugV (x? : Option (Option Vl)) (i : Nat) (a : XE') (og : Vl → Vl → Sto → Out Vl) (env : En) (S : Sto) : Out Fl := match x? with
  | some (some x) => kAug (a env S) env i x og
  | _ => .bad
theorem zAug_e : zAug i a og env S = kAugV (env[i]?) i a og env S := rfl
theorem kAugV_s : kAugV (some (some x)) i a og env S = kAug (a env S) env i x og := rfl
def kSet (o : Out Vl) (env : En) (i : Nat) : Out Fl := o.bindS env fun z S2 => .ok (.nx (env.set i (some z))) S2
theorem kAug_ok : kAug (.ok y S) env i x og = kSet (og x y S) env i := rfl
theorem kSet_ok : kSet (.ok y S) env i = .ok (.nx (env.set i (some y))) S := rfl
def kPar1 (o : Out Vl) (env : En) (i j : Nat) (b : XE') : Out Fl := o.bindS env fun v S1 => (b env S1).bindS env fun w S2 => .ok (.nx ((env.set i (some v)).set j (some w))) S2
def kPar2 (o : Out Vl) (env : En) (i j : Nat) (v : Vl) : Out Fl := o.bindS env fun w S2 => .ok (.nx ((env.set i (some v)).set j (some w))) S2
theorem zPar_e : zPar i j a b env S = kPar1 (a env S) env i j b := rfl
theorem kPar1_ok : kPar1 (.ok v S) env i j b = kPar2 (b env S) env i j v := rfl
theorem kPar2_ok : kPar2 (.ok x S) env i j v = .ok (.nx ((env.set i (some v)).set j (some x))) S := rfl
theorem runB0_e {body : ZS} : runB0 n body xs S = (match body (enter n xs) S with
  | .ok (.nx _) S' => .ok .non S'
  | .ok (.rt v) S' => .ok v S'
  | _ => .bad) := rfl
def fin0 (o : Out Fl) : Out Vl := match o with
  | .ok (.nx _) S' => .ok .non S'
  | .ok (.rt v) S' => .ok v S'
  | _ => .bad
theorem run0_e {body : ZS} : runB0 n body xs S = fin0 (body (enter n xs) S) := rfl
theorem fin0_nx : fin0 (.ok (.nx e) S) = .ok .non S := rfl
theorem fin0_rt : fin0 (.ok (.rt v) S) = .ok v S := rfl
def finX (o : Out Fl) : Out Vl := match o with
  | .ok (.nx _) S' => .ok .non S'
  | .ok (.rt v) S' => .ok v S'
  | .ok (.er c x _) S' => .err c x S'
  | _ => .bad
theorem runX_e {body : ZS} : runBX n body xs S = finX (body (enter n xs) S) := rfl
theorem finX_nx : finX (.ok (.nx e) S) = .ok .non S := rfl
theorem finX_rt : finX (.ok (.rt v) S) = .ok v S := rfl
theorem finX_er : finX (.ok (.er k q e) S) = .err k q S := rfl
/- targets -/
theorem gmName_e : gmName i v env S = .ok (env.set i (some v)) S := rfl
theorem gmTup_t : gmTup n gs (.tup xs) env S = if xs.length = n then gs xs env S else .bad := rfl
theorem gmTup_k : gmTup n gs (.ktp xs) env S = if xs.length = n then gs xs env S else .bad := rfl
def kTL (o? : Option Ob) (n : Nat) (gs : GMs) (env : En) (S : Sto) : Out En := match o? with
  | some (.lst xs) => if xs.length = n then gs xs env S else .bad
  | _ => .bad
theorem gmTup_l : gmTup n gs (.ref i) env S = kTL (S[i]?) n gs env S := rfl
theorem kTL_s : kTL (some (.lst xs)) n gs env S = if xs.length = n then gs xs env S else .bad := rfl
theorem gmsNil_e : gmsNil [] env S = .ok env S := rfl
def kG (o : Out En) (gs : GMs) (xs : List Vl) : Out En := o.bind fun e S1 => gs xs e S1
theorem gmsCons_e : gmsCons gm gs (x :: xs) env S = kG (gm x env S) gs xs := rfl
theorem kG_ok : kG (.ok e S) gs xs = gs xs e S := rfl
def kG1 (o : Out En) (gm : GM) (x : Vl) : Out En := o.bind fun e S1 => gm x e S1
theorem kG1_ok : kG1 (.ok e S) gm x = gm x e S := rfl
theorem gmStar_t : gmStar1 gm gm2 (.tup (x :: xs)) env S = kG1 (gm x env (S ++ [.lst xs])) gm2 (.ref S.length) := rfl
theorem gmStar_k : gmStar1 gm gm2 (.ktp (x :: xs)) env S = kG1 (gm x env (S ++ [.lst xs])) gm2 (.ref S.length) := rfl
def kSub1 (o : Out Vl) (env : En) (i : XE') (sg : Vl → Vl → Vl → Sto → Out Unit) (v : Vl) : Out En := o.bind fun ov S1 => (i env S1).bind fun iv S2 => (sg ov iv v S2).bind fun _ S3 => .ok env S3
def kSub2 (o : Out Vl) (env : En) (ov : Vl) (sg : Vl → Vl → Vl → Sto → Out Unit) (v : Vl) : Out En := o.bind fun iv S2 => (sg ov iv v S2).bind fun _ S3 => .ok env S3
def kSub3 (o : Out Unit) (env : En) : Out En := o.bind fun _ S3 => .ok env S3
theorem gmSub_e {sg : Vl → Vl → Vl → Sto → Out Unit} : gmSub a b sg v env S = kSub1 (a env S) env b sg v := rfl
theorem kSub1_ok {sg : Vl → Vl → Vl → Sto → Out Unit} : kSub1 (.ok x S) env b sg v = kSub2 (b env S) env x sg v := rfl
theorem kSub2_ok {sg : Vl → Vl → Vl → Sto → Out Unit} : kSub2 (.ok y S) env x sg v = kSub3 (sg x y v S) env := rfl
theorem kSub3_ok : kSub3 (.ok () S) env = .ok env S := rfl
def kGF1 (o : Out Vl) (env : En) (k : Nat) (cs : List Nat) (v : Vl) : Out En := o.bind fun ov S1 => match ov with
  | .ref i => match S1[i]? with
    | some (.ins c fs) => if cs.contains c = true ∧ fs.length < 1000 then .ok env (S1.set i (.ins c (putL k v fs))) else .bad
    | _ => .bad
  | _ => .bad
theorem gmFld_e : gmFld k cs o v env S = kGF1 (o env S) env k cs v := rfl
def kGF2 (o? : Option Ob) (i : Nat) (env : En) (k : Nat) (cs : List Nat) (v : Vl) (S : Sto) : Out En := match o? with
  | some (.ins c fs) => if cs.contains c = true ∧ fs.length < 1000 then .ok env (S.set i (.ins c (putL k v fs))) else .bad
  | _ => .bad
theorem kGF1_ok : kGF1 (.ok (.ref i) S) env k cs v = kGF2 (S[i]?) i env k cs v S := rfl
theorem kGF2_s {c' : Nat} : kGF2 (some (.ins c' fs)) i env k cs v S = if cs.contains c' = true ∧ fs.length < 1000 then .ok env (S.set i (.ins c' (putL k v fs))) else .bad := rfl
/- expressions -/
def kVar (x? : Option (Option Vl)) (S : Sto) : Out Vl := match x? with
  | some (some x) => .ok x S
  | _ => .bad
theorem xVar_e : xVar i env S = kVar (env[i]?) S := rfl
theorem kVar_s : kVar (some (some x)) S = .ok x S := rfl
theorem xC_e : xC v env S = .ok v S := rfl
def kOp1 (o : Out Vl) (env : En) (b : XE') (og : Vl → Vl → Sto → Out Vl) : Out Vl := o.bind fun x S1 => (b env S1).bind fun y S2 => og x y S2
def kOp2 (o : Out Vl) (x : Vl) (og : Vl → Vl → Sto → Out Vl) : Out Vl := o.bind fun y S2 => og x y S2
theorem xOp_e : xOp og a b env S = kOp1 (a env S) env b og := rfl
theorem kOp1_ok : kOp1 (.ok x S) env b og = kOp2 (b env S) x og := rfl
theorem kOp1_err : kOp1 (.err k q S) env b og = .err k q S := rfl
theorem kOp2_ok : kOp2 (.ok y S) x og = og x y S := rfl
theorem kOp2_err : kOp2 (.err k q S) x og = .err k q S := rfl
def kUn (o : Out Vl) (ug : Vl → Sto → Out Vl) : Out Vl := o.bind fun x S => ug x S
theorem xUn_e : xUn ug a env S = kUn (a env S) ug := rfl
theorem kUn_ok : kUn (.ok x S) ug = ug x S := rfl
theorem aNil_e : aNil env S = .ok [] S := rfl
def kA1 (o : Out Vl) (env : En) (r : XA) : Out (List Vl) := o.bind fun x S1 => (r env S1).bind fun xs S2 => .ok (x :: xs) S2
def kA2 (o : Out (List Vl)) (x : Vl) : Out (List Vl) := o.bind fun xs S2 => .ok (x :: xs) S2
theorem aCons_e : aCons a aa env S = kA1 (a env S) env aa := rfl
theorem kA1_ok : kA1 (.ok x S) env aa = kA2 (aa env S) x := rfl
theorem kA1_err : kA1 (.err k q S) env aa = .err k q S := rfl
theorem kA2_ok : kA2 (.ok xs S) x = .ok (x :: xs) S := rfl
theorem kA2_err : kA2 (.err k q S) x = .err k q S := rfl
def kTp (o : Out (List Vl)) : Out Vl := o.bind fun xs S1 => if xs.length ≤ 100000 then .ok (.tup xs) S1 else .bad
theorem xTup_e : xTup aa env S = kTp (aa env S) := rfl
theorem kTp_ok (h : xs.length ≤ 100000) : kTp (.ok xs S) = .ok (.tup xs) S := by
  show (if _ then _ else _) = _
  rw [if_pos h]
theorem kTp_err : kTp (.err k q S) = .err k q S := rfl
def kLst (o : Out (List Vl)) : Out Vl := o.bind fun xs S1 => if xs.length ≤ 100000 then .ok (.ref S1.length) (S1 ++ [.lst xs]) else .bad
theorem xLst_e : xLst aa env S = kLst (aa env S) := rfl
theorem kLst_ok (h : xs.length ≤ 100000) : kLst (.ok xs S) = .ok (.ref S.length) (S ++ [.lst xs]) := by
  show (if _ then _ else _) = _
  rw [if_pos h]
theorem kLst_err : kLst (.err k q S) = .err k q S := rfl
def kCB (o : Out (List Vl)) (cg : List Vl → Sto → Out Vl) : Out Vl := o.bind fun xs S1 => cg xs S1
theorem xCB_e : xCB cg aa env S = kCB (aa env S) cg := rfl
theorem kCB_ok : kCB (.ok xs S) cg = cg xs S := rfl
theorem kCB_err : kCB (.err k q S) cg = .err k q S := rfl
def kB (o : Out Vl) : Out Bool := o.bind toB
theorem yCmp_e : yCmp og a b env S = kB (kOp1 (a env S) env b og) := rfl
theorem yChain_e {og' : Vl → Vl → Sto → Out Vl} : yChain og og' a b c env S = kB (xChain og og' a b c env S) := rfl
theorem kB_ok : kB (.ok (.bl bl) S) = .ok bl S := rfl
theorem kB_err : kB (.err k q S) = .err k q S := rfl
def kCh1 (o : Out Vl) (env : En) (b c : XE') (og og' : Vl → Vl → Sto → Out Vl) : Out Vl := o.bind fun x S1 => (b env S1).bind fun y S2 => (og x y S2).bind fun z S3 => (toB z S3).bind fun k S4 => if k = true then (c env S4).bind fun w S5 => og' y w S5 else .ok (.bl false) S4
def kCh2 (o : Out Vl) (env : En) (x : Vl) (c : XE') (og og' : Vl → Vl → Sto → Out Vl) : Out Vl := o.bind fun y S2 => (og x y S2).bind fun z S3 => (toB z S3).bind fun k S4 => if k = true then (c env S4).bind fun w S5 => og' y w S5 else .ok (.bl false) S4
def kCh3 (o : Out Vl) (env : En) (y : Vl) (c : XE') (og' : Vl → Vl → Sto → Out Vl) : Out Vl := o.bind fun z S3 => (toB z S3).bind fun k S4 => if k = true then (c env S4).bind fun w S5 => og' y w S5 else .ok (.bl false) S4
theorem xChain_e {og' : Vl → Vl → Sto → Out Vl} : xChain og og' a b c env S = kCh1 (a env S) env b c og og' := rfl
theorem kCh1_ok {og' : Vl → Vl → Sto → Out Vl} : kCh1 (.ok x S) env b c og og' = kCh2 (b env S) env x c og og' := rfl
theorem kCh2_ok {og' : Vl → Vl → Sto → Out Vl} : kCh2 (.ok y S) env x c og og' = kCh3 (og x y S) env y c og' := rfl
theorem kCh3_t {og' : Vl → Vl → Sto → Out Vl} : kCh3 (.ok (.bl true) S) env y c og' = kOp2 (c env S) y og' := rfl
theorem kCh3_f {og' : Vl → Vl → Sto → Out Vl} : kCh3 (.ok (.bl false) S) env y c og' = .ok (.bl false) S := rfl
def kV (o : Out Vl) : Out Bool := o.bind truth
theorem yV_e : yV a env S = kV (a env S) := rfl
theorem kV_ok : kV (.ok x S) = truth x S := rfl
theorem kV_err : kV (.err k q S) = .err k q S := rfl
theorem yYes_e : yYes env S = .ok true S := rfl
def kAnd (o : Out Bool) (env : En) (u : XT) : Out Bool := o.bind fun c S1 => if c = true then u env S1 else .ok false S1
theorem yAnd_e : yAnd t u env S = kAnd (t env S) env u := rfl
theorem kAnd_t : kAnd (.ok true S) env u = u env S := rfl
theorem kAnd_f : kAnd (.ok false S) env u = .ok false S := rfl
theorem kAnd_err : kAnd (.err k q S) env u = .err k q S := rfl
def kOr (o : Out Bool) (env : En) (u : XT) : Out Bool := o.bind fun c S1 => if c = true then .ok true S1 else u env S1
theorem yOr_e : yOr t u env S = kOr (t env S) env u := rfl
theorem kOr_t : kOr (.ok true S) env u = .ok true S := rfl
theorem kOr_f : kOr (.ok false S) env u = u env S := rfl
theorem kOr_err : kOr (.err k q S) env u = .err k q S := rfl
def kNot (o : Out Bool) : Out Bool := o.bind fun c S1 => .ok (!c) S1
theorem yNot_e : yNot t env S = kNot (t env S) := rfl
theorem kNot_ok : kNot (.ok bl S) = .ok (!bl) S := rfl
theorem kNot_err : kNot (.err k q S) = .err k q S := rfl
def kXIf (o : Out Bool) (env : En) (a b : XE') : Out Vl := o.bind fun c S1 => if c = true then a env S1 else b env S1
theorem xIf_e : xIf t a b env S = kXIf (t env S) env a b := rfl
theorem kXIf_t : kXIf (.ok true S) env a b = a env S := rfl
theorem kXIf_f : kXIf (.ok false S) env a b = b env S := rfl
theorem kXIf_err : kXIf (.err k q S) env a b = .err k q S := rfl
def kXA (o : Out Vl) (env : En) (b : XE') : Out Vl := o.bind fun x S1 => (truth x S1).bind fun c S2 => if c = true then b env S2 else .ok x S2
def kXA2 (o : Out Bool) (env : En) (x : Vl) (b : XE') : Out Vl := o.bind fun c S2 => if c = true then b env S2 else .ok x S2
theorem xAnd_e : xAnd a b env S = kXA (a env S) env b := rfl
theorem kXA_ok : kXA (.ok x S) env b = kXA2 (truth x S) env x b := rfl
theorem kXA2_t : kXA2 (.ok true S) env x b = b env S := rfl
theorem kXA2_f : kXA2 (.ok false S) env x b = .ok x S := rfl
def kXO (o : Out Vl) (env : En) (b : XE') : Out Vl := o.bind fun x S1 => (truth x S1).bind fun c S2 => if c = true then .ok x S2 else b env S2
def kXO2 (o : Out Bool) (env : En) (x : Vl) (b : XE') : Out Vl := o.bind fun c S2 => if c = true then .ok x S2 else b env S2
theorem xOr_e : xOr a b env S = kXO (a env S) env b := rfl
theorem kXO_ok : kXO (.ok x S) env b = kXO2 (truth x S) env x b := rfl
theorem kXO2_t : kXO2 (.ok true S) env x b = .ok x S := rfl
theorem kXO2_f : kXO2 (.ok false S) env x b = b env S := rfl
def kXN (o : Out Vl) : Out Vl := o.bind fun x S1 => (truth x S1).bind fun c S2 => .ok (.bl (!c)) S2
def kXN2 (o : Out Bool) : Out Vl := o.bind fun c S2 => .ok (.bl (!c)) S2
theorem xNot_e : xNot a env S = kXN (a env S) := rfl
theorem kXN_ok : kXN (.ok x S) = kXN2 (truth x S) := rfl
theorem kXN2_ok : kXN2 (.ok bl S) = .ok (.bl (!bl)) S := rfl
/- calls -/
def kBA1 (o : Out (List Vl)) (env : En) (ak : XA) : Out (List Vl × List Vl) := o.bind fun xs S1 => (ak env S1).bind fun zs S2 => .ok (xs, zs) S2
def kBA2 (o : Out (List Vl)) (xs : List Vl) : Out (List Vl × List Vl) := o.bind fun zs S2 => .ok (xs, zs) S2
theorem bArgs_e : bArgs aa ak env S = kBA1 (aa env S) env ak := rfl
theorem kBA1_ok : kBA1 (.ok xs S) env ak = kBA2 (ak env S) xs := rfl
theorem kBA1_err : kBA1 (.err k q S) env ak = .err k q S := rfl
theorem kBA2_ok : kBA2 (.ok zs S) xs = .ok (xs, zs) S := rfl
theorem kBA2_err : kBA2 (.err k q S) xs = .err k q S := rfl
def kCall (o : Out (List Vl × List Vl)) (n np : Nat) (gL : List Vl → List Vl → List Vl) (nk : Nat) (mf : List Vl → Sto → Out Vl) : Out Vl := o.bind fun xz S1 => if xz.1.length = n ∧ xz.2.length = nk ∧ (gL xz.1 xz.2).length = np then mf (gL xz.1 xz.2) S1 else .bad
theorem xCall_e : xCall n np gL nk cg ab env S = kCall (ab env S) n np gL nk cg := rfl
theorem kCall_ok (h : (xs.length == n && (zs.length == nk && (gL xs zs).length == np)) = true) : kCall (.ok (xs, zs) S) n np gL nk cg = cg (gL xs zs) S := by
  show (if _ then _ else _) = _
  simp only [Bool.and_eq_true, beq_iff_eq] at h
  rw [if_pos h]
theorem kCall_err : kCall (.err k q S) n np gL nk cg = .err k q S := rfl
def kMk1 (o : Out (List Vl × List Vl)) (c n np : Nat) (gL : List Vl → List Vl → List Vl) (nk : Nat) (mf : List Vl → Sto → Out Vl) : Out Vl := o.bind fun xz S1 => if xz.1.length = n ∧ xz.2.length = nk ∧ (gL (.ref S1.length :: xz.1) xz.2).length = np then
  (mf (gL (.ref S1.length :: xz.1) xz.2) (S1 ++ [.ins c []])).bind fun v S2 => match v with
    | .non => .ok (.ref S1.length) S2
    | _ => .bad
  else .bad
def kMk2 (o : Out Vl) (n : Nat) : Out Vl := o.bind fun v S2 => match v with
    | .non => .ok (.ref n) S2
    | _ => .bad
theorem xMake_e : xMake i n np gL nk cg ab env S = kMk1 (ab env S) i n np gL nk cg := rfl
theorem kMk1_ok (h : (xs.length == n && (zs.length == nk && (gL (.ref S.length :: xs) zs).length == np)) = true) : kMk1 (.ok (xs, zs) S) i n np gL nk cg = kMk2 (cg (gL (.ref S.length :: xs) zs) (S ++ [.ins i []])) S.length := by
  show (if _ then _ else _) = _
  simp only [Bool.and_eq_true, beq_iff_eq] at h
  rw [if_pos h]
  rfl
theorem kMk1_err : kMk1 (.err k q S) i n np gL nk cg = .err k q S := rfl
theorem kMk2_ok : kMk2 (.ok .non S) n = .ok (.ref n) S := rfl
theorem kMk2_err : kMk2 (.err k q S) n = .err k q S := rfl
def kMe1 (o : Out Vl) (env : En) (tb : List (Nat × MT)) (a : XB) : Out Vl := o.bind fun ov S1 => match ov with
  | .ref i => match S1[i]? with
    | some (.ins c _) => match tb.lookup c with
      | some M => (a env S1).bind fun xz S2 => if xz.1.length = M.n ∧ xz.2.length = M.nk ∧ (M.gL (ov :: xz.1) xz.2).length = M.np then M.mf (M.gL (ov :: xz.1) xz.2) S2 else .bad
      | none => .bad
    | _ => .bad
  | _ => .bad
def kMe2 (M? : Option MT) (env : En) (ov : Vl) (a : XB) (S : Sto) : Out Vl := match M? with
  | some M => (a env S).bind fun xz S2 => if xz.1.length = M.n ∧ xz.2.length = M.nk ∧ (M.gL (ov :: xz.1) xz.2).length = M.np then M.mf (M.gL (ov :: xz.1) xz.2) S2 else .bad
  | none => .bad
def kMe3 (o : Out (List Vl × List Vl)) (ov : Vl) (M : MT) : Out Vl := o.bind fun xz S2 => if xz.1.length = M.n ∧ xz.2.length = M.nk ∧ (M.gL (ov :: xz.1) xz.2).length = M.np then M.mf (M.gL (ov :: xz.1) xz.2) S2 else .bad
theorem xMeth_e : xMeth tb o ab env S = kMe1 (o env S) env tb ab := rfl
def kMe1b (o? : Option Ob) (i : Nat) (env : En) (tb : List (Nat × MT)) (a : XB) (S : Sto) : Out Vl := match o? with
  | some (.ins c _) => kMe2 (tb.lookup c) env (.ref i) a S
  | _ => .bad
theorem kMe1_ok : kMe1 (.ok (.ref i) S) env tb ab = kMe1b (S[i]?) i env tb ab S := rfl
theorem kMe1b_s : kMe1b (some (.ins j fs)) i env tb ab S = kMe2 (tb.lookup j) env (.ref i) ab S := rfl
theorem kMe2_ok {n np nk : Nat} : kMe2 (some ⟨n, np, nk, gL, cg⟩) env x ab S = kMe3 (ab env S) x ⟨n, np, nk, gL, cg⟩ := rfl
theorem kMe3_ok (h : (xs.length == n && (zs.length == nk && (gL (x :: xs) zs).length == np)) = true) : kMe3 (.ok (xs, zs) S) x ⟨n, np, nk, gL, cg⟩ = cg (gL (x :: xs) zs) S := by
  show (if _ then _ else _) = _
  simp only [Bool.and_eq_true, beq_iff_eq] at h
  rw [if_pos h]
theorem kMe3_err : kMe3 (.err k q S) x M = .err k q S := rfl
def kF1 (o : Out Vl) (k : Nat) (cs : List Nat) : Out Vl := o.bind fun ov S1 => match ov with
  | .ref i => match S1[i]? with
    | some (.ins c fs) => if cs.contains c = true then match fs.lookup k with
      | some v => .ok v S1
      | none => .bad
      else .bad
    | _ => .bad
  | _ => .bad
theorem xFld_e : xFld k cs o env S = kF1 (o env S) k cs := rfl
def kF3 (v? : Option Vl) (S : Sto) : Out Vl := match v? with
  | some v => .ok v S
  | none => .bad
theorem kF3_s : kF3 (some v) S = .ok v S := rfl
def kF2 (o? : Option Ob) (k : Nat) (cs : List Nat) (S : Sto) : Out Vl := match o? with
  | some (.ins c fs) => if cs.contains c = true then kF3 (fs.lookup k) S else .bad
  | _ => .bad
theorem kF1_ok : kF1 (.ok (.ref i) S) k cs = kF2 (S[i]?) k cs S := rfl
theorem kF2_s {c' : Nat} : kF2 (some (.ins c' fs)) k cs S = if cs.contains c' = true then kF3 (fs.lookup k) S else .bad := rfl
theorem kF1_err : kF1 (.err i q S) k cs = .err i q S := rfl

def kCV2 (M? : Option MT) (env : En) (a : XB) (S : Sto) : Out Vl := match M? with
  | some M => (a env S).bind fun xz S2 => if xz.1.length = M.n ∧ xz.2.length = M.nk ∧ (M.gL xz.1 xz.2).length = M.np then M.mf (M.gL xz.1 xz.2) S2 else .bad
  | none => .bad
def kCV1 (x? : Option (Option Vl)) (tb : List (Nat × MT)) (env : En) (a : XB) (S : Sto) : Out Vl := match x? with
  | some (some (.fn j)) => kCV2 (tb.lookup j) env a S
  | _ => .bad
theorem xCallV_k : xCallV tb i ab env S = kCV1 (env[i]?) tb env ab S := rfl
theorem kCV1_s : kCV1 (some (some (.fn j))) tb env ab S = kCV2 (tb.lookup j) env ab S := rfl
theorem kCV2_ok {n np nk : Nat} : kCV2 (some ⟨n, np, nk, gL, cg⟩) env ab S = kCall (ab env S) n np gL nk cg := rfl
def kBM1 (o : Out Vl) (env : En) (T : String) (mg : Vl → List Vl → Sto → Out Vl) (a : XA) : Out Vl := o.bind fun x S1 => if tyM T x S1 = true then (a env S1).bind fun xs S2 => mg x xs S2 else .bad
def kBM2 (o : Out (List Vl)) (x : Vl) (mg : Vl → List Vl → Sto → Out Vl) : Out Vl := o.bind fun xs S2 => mg x xs S2
theorem xBM_e {T : String} {mg : Vl → List Vl → Sto → Out Vl} : xBM T mg a aa env S = kBM1 (a env S) env T mg aa := rfl
theorem kBM1_ok {T : String} {mg : Vl → List Vl → Sto → Out Vl} (h : tyM T x S = true) : kBM1 (.ok x S) env T mg aa = kBM2 (aa env S) x mg := by
  show (if _ then _ else _) = _
  rw [if_pos h]
  rfl
theorem kBM2_ok {mg : Vl → List Vl → Sto → Out Vl} : kBM2 (.ok xs S) x mg = mg x xs S := rfl

/- op= on a field -/
def kFA1 (o : Out Vl) (env : En) (k : Nat) (cs : List Nat) (a : XE') (og : Vl → Vl → Sto → Out Vl) : Out Fl := o.bindS env fun ov S1 => match ov with
  | .ref i => match S1[i]? with
    | some (.ins c fs) => if cs.contains c = true then match fs.lookup k with
      | some x => (a env S1).bindS env fun y S2 => (og x y S2).bindS env fun z S3 => match S3[i]? with
        | some (.ins c' fs') => if c' = c ∧ fs'.length < 1000 then .ok (.nx env) (S3.set i (.ins c (putL k z fs'))) else .bad
        | _ => .bad
      | none => .bad
      else .bad
    | _ => .bad
  | _ => .bad
def kFA2 (o : Out Vl) (env : En) (k i c : Nat) (x : Vl) (og : Vl → Vl → Sto → Out Vl) : Out Fl := o.bindS env fun y S2 => (og x y S2).bindS env fun z S3 => match S3[i]? with
        | some (.ins c' fs') => if c' = c ∧ fs'.length < 1000 then .ok (.nx env) (S3.set i (.ins c (putL k z fs'))) else .bad
        | _ => .bad
def kFA3 (o : Out Vl) (env : En) (k i c : Nat) : Out Fl := o.bindS env fun z S3 => match S3[i]? with
        | some (.ins c' fs') => if c' = c ∧ fs'.length < 1000 then .ok (.nx env) (S3.set i (.ins c (putL k z fs'))) else .bad
        | _ => .bad
theorem zFA_e : zFldAug k cs o a og env S = kFA1 (o env S) env k cs a og := rfl
def kFA1c (v? : Option Vl) (env : En) (k i c : Nat) (a : XE') (og : Vl → Vl → Sto → Out Vl) (S : Sto) : Out Fl := match v? with
  | some x => kFA2 (a env S) env k i c x og
  | none => .bad
theorem kFA1c_s : kFA1c (some x) env k i j a og S = kFA2 (a env S) env k i j x og := rfl
def kFA1b (o? : Option Ob) (i : Nat) (env : En) (k : Nat) (cs : List Nat) (a : XE') (og : Vl → Vl → Sto → Out Vl) (S : Sto) : Out Fl := match o? with
  | some (.ins c fs) => if cs.contains c = true then kFA1c (fs.lookup k) env k i c a og S else .bad
  | _ => .bad
theorem kFA1_ok : kFA1 (.ok (.ref i) S) env k cs a og = kFA1b (S[i]?) i env k cs a og S := rfl
theorem kFA1b_s {c' : Nat} : kFA1b (some (.ins c' fs)) i env k cs a og S = if cs.contains c' = true then kFA1c (fs.lookup k) env k i c' a og S else .bad := rfl
theorem kFA2_ok : kFA2 (.ok y S) env k i j x og = kFA3 (og x y S) env k i j := rfl
def kFA4 (o? : Option Ob) (env : En) (k i c : Nat) (z : Vl) (S : Sto) : Out Fl := match o? with
  | some (.ins c' fs') => if c' = c ∧ fs'.length < 1000 then .ok (.nx env) (S.set i (.ins c (putL k z fs'))) else .bad
  | _ => .bad
theorem kFA3_ok : kFA3 (.ok z S) env k i j = kFA4 (S[i]?) env k i j z S := rfl
theorem kFA4_s : kFA4 (some (.ins n fs)) env k i j z S = if n = j ∧ fs.length < 1000 then .ok (.nx env) (S.set i (.ins j (putL k z fs))) else .bad := rfl
/- parts -/
def kAt (v? : Option Vl) (S : Sto) : Out Vl := match v? with
  | some v => .ok v S
  | none => .bad
theorem kAt_s : kAt (some v) S = .ok v S := rfl
def kAtI (v? : Option Int) (S : Sto) : Out Vl := match v? with
  | some v => .ok (.int v) S
  | none => .bad
theorem kAtI_s {n : Int} : kAtI (some n) S = .ok (.int n) S := rfl
def kDg (v? : Option (Option Vl)) (S : Sto) : Out Vl := match v? with
  | some (some v) => .ok v S
  | _ => .bad
theorem kDg_s : kDg (some (some v)) S = .ok v S := rfl
def kRf (o? : Option Ob) (i : Nat) (n : Int) (S : Sto) : Out Vl := match o? with
  | some (.lst xs) => kAt (atI xs n) S
  | _ => kDg (dGet S i (.int n)) S
theorem kRf_l {n : Int} : kRf (some (.lst xs)) i n S = kAt (atI xs n) S := rfl
theorem kRf_k {n : Int} {kv : List (Key × Vl)} : kRf (some (.dk kv)) i n S = kDg (dGet S i (.int n)) S := rfl
theorem vIx_tup {n : Int} : vIx (.tup xs) (.int n) S = kAt (atI xs n) S := rfl
theorem vIx_ktp {n : Int} : vIx (.ktp xs) (.int n) S = kAt (atI xs n) S := rfl
theorem vIx_scr {n : Int} {ns : List Int} : vIx (.scr ns) (.int n) S = kAtI (atI ns n) S := rfl
theorem vIx_ri {n : Int} : vIx (.ref i) (.int n) S = kRf (S[i]?) i n S := rfl
theorem vIx_rs {z : Str} : vIx (.ref i) (.str z) S = kDg (dGet S i (.str z)) S := rfl
theorem vIx_rt : vIx (.ref i) (.tup xs) S = kDg (dGet S i (.tup xs)) S := rfl
/- loops -/
def kFor (o : Out Itm) (env : En) (gm : GM) (f : ZS) : Out Fl := o.bindS env fun I S1 => forZ I gm f I.fuel 0 env S1
theorem zFor_e {it : En → Sto → Out Itm} : zFor it gm f env S = kFor (it env S) env gm f := rfl
theorem kFor_ok {I : Itm} : kFor (.ok I S) env gm f = forZ I gm f I.fuel 0 env S := rfl
theorem kFor_err : kFor (.err k q S) env gm f = .ok (.er k q env) S := rfl
def kR1 (o : Out (List Vl)) : Out Itm := o.bind fun vs S1 => match vs with
  | [.int j] => if -(2 ^ 62) ≤ j ∧ j < 2 ^ 62 then .ok (itR 0 j.toNat) S1 else .bad
  | _ => .bad
theorem itR_f {lo : Int} : (itR lo n).fuel = n := rfl
theorem itL_f : (itL i n).fuel = n := rfl
theorem itT_f : (itT xs).fuel = xs.length := rfl
theorem iRange1_e : iRange1 aa env S = kR1 (aa env S) := rfl
theorem kR1_ok {m : Int} (h : -4611686018427387904 ≤ m ∧ m < 4611686018427387904) : kR1 (.ok [.int m] S) = .ok (itR 0 m.toNat) S := by
  show (if _ then _ else _) = _
  rw [if_pos ⟨by omega, by omega⟩]
def kAny (o : Out Vl) : Out Itm := o.bind vIter
theorem iAny_e : iAny a env S = kAny (a env S) := rfl
theorem kAny_t : kAny (.ok (.tup xs) S) = .ok (itT xs) S := rfl
theorem kAny_k : kAny (.ok (.ktp xs) S) = .ok (itT xs) S := rfl
def kIt (o? : Option Ob) (i : Nat) (S : Sto) : Out Itm := match o? with
  | some (.lst xs) => .ok (itL i xs.length) S
  | _ => .bad
theorem kAny_r : kAny (.ok (.ref i) S) = kIt (S[i]?) i S := rfl
theorem kIt_l : kIt (some (.lst xs)) i S = .ok (itL i xs.length) S := rfl
/- in -/
def kDi (o? : Option (Option Vl)) (bl : Bool) (S : Sto) : Out Vl := match o? with
  | some o => .ok (.bl (bl ^^ o.isSome)) S
  | none => .bad
theorem kDi_s {p : Option Vl} : kDi (some p) bl S = .ok (.bl (bl ^^ p.isSome)) S := rfl
def kIn (o? : Option Ob) (bl : Bool) (x : Vl) (i : Nat) (S : Sto) : Out Vl := match o? with
  | some (.lst ys) => seqIn bl x ys S
  | _ => kDi (dGet S i x) bl S
theorem vIn_r : vInG bl x (.ref i) S = kIn (S[i]?) bl x i S := rfl
theorem vIn_t : vInG bl x (.tup xs) S = seqIn bl x xs S := rfl
theorem vIn_k : vInG bl x (.ktp xs) S = seqIn bl x xs S := rfl
theorem kIn_l : kIn (some (.lst xs)) bl x i S = seqIn bl x xs S := rfl
theorem kIn_k {kv : List (Key × Vl)} : kIn (some (.dk kv)) bl x i S = kDi (dGet S i x) bl S := rfl
theorem kIn_t {kv : List (List Key × Vl)} : kIn (some (.dt kv)) bl x i S = kDi (dGet S i x) bl S := rfl
end
/-! ### numbers, places -/
theorem vMul_l {i j : Int} {S : Sto} (h : -18446744073709551616 < i ∧ i < 18446744073709551616) : vMul (.int i) (.int j) S = .ok (.int (i * j)) S := by
  show (if _ then _ else _) = _
  rw [if_pos (.inl (.inl (by omega)))]
theorem vMul_r {i j : Int} {S : Sto} (h : -18446744073709551616 < j ∧ j < 18446744073709551616) : vMul (.int i) (.int j) S = .ok (.int (i * j)) S := by
  show (if _ then _ else _) = _
  rw [if_pos (.inl (.inr (by omega)))]
theorem vDiv_w {i j : Int} {S : Sto} (h : 0 < j ∧ j.natAbs.log2 < 9000) : vDiv (.int i) (.int j) S = .ok (.int (i / j)) S := by
  show (if _ then _ else _) = _
  rw [if_pos h]
theorem vDiv_s {i j : Int} {S : Sto} (h : 0 < j) (h2 : j < 18446744073709551616) : vDiv (.int i) (.int j) S = .ok (.int (i / j)) S := vDiv_w ⟨h, by
  have h3 : j.natAbs < 2 ^ 64 := by omega
  have h4 : j.natAbs.log2 < 64 := (Nat.log2_lt (by omega)).mpr h3
  omega⟩
theorem vMod_s {i j : Int} {S : Sto} (h : 0 < j) : vMod (.int i) (.int j) S = .ok (.int (i % j)) S := by
  show (if _ then _ else _) = _
  rw [if_pos h]
theorem vPow_10 {j : Int} {S : Sto} (h : 0 ≤ j) (h2 : j ≤ 1000000) : vPow (.int 10) (.int j) S = .ok (.int (10 ^ j.toNat)) S := by
  show (if _ then _ else _) = _
  rw [if_pos ⟨h, h2, by decide⟩]
theorem a_0 {α : Type} {x : α} {xs : List α} : atI (x :: xs) 0 = some x := atI_nat (j := 0) rfl
theorem a_1 {α : Type} {x y : α} {xs : List α} : atI (x :: y :: xs) 1 = some y := atI_nat (j := 1) rfl
theorem a_2 {α : Type} {x y z : α} {xs : List α} : atI (x :: y :: z :: xs) 2 = some z := atI_nat (j := 2) rfl
theorem a_3 {α : Type} {x y z u : α} {xs : List α} : atI (x :: y :: z :: u :: xs) 3 = some u := atI_nat (j := 3) rfl
theorem i_0 {n : Nat} : ixN (n + 1) 0 = some 0 := by
  unfold ixN
  rw [if_pos (by omega), if_pos (by omega)]; rfl
theorem i_1 {n : Nat} : ixN (n + 1 + 1) 1 = some 1 := by
  unfold ixN
  rw [if_pos (by omega), if_pos (by omega)]; rfl
theorem i_2 {n : Nat} : ixN (n + 1 + 1 + 1) 2 = some 2 := by
  unfold ixN
  rw [if_pos (by omega), if_pos (by omega)]; rfl
/-! ### try, isinstance of what was caught -/
section
variable {env e : En} {S : Sto} {i c : Nat} {mt : Nat → Option Bool} {fb : ZS} {fs : Nat → ZS} {v : Vl} {f2 : XE'} {ans : Vl → Option Bool} {b : Bool}
theorem zTryAs_e : zTryAs i mt fb fs env S = catchZ i mt fs (fb env S) := rfl
theorem catch_nx : catchZ i mt fs (.ok (.nx e) S) = .ok (.nx e) S := rfl
theorem catch_rt : catchZ i mt fs (.ok (.rt v) S) = .ok (.rt v) S := rfl
theorem catch_er (h : mt c = some true) (hl : i < e.length) : catchZ i mt fs (.ok (.er c none e) S) = outS i (fs c (e.set i none) S) := by
  unfold catchZ
  dsimp only
  rw [h]
  dsimp only
  rw [if_pos hl]
theorem outS_nx : outS i (.ok (.nx e) S) = .ok (.nx (e.set i none)) S := rfl
theorem outS_rt : outS i (.ok (.rt v) S) = .ok (.rt v) S := rfl
def kIsE2 (o : Option Bool) (S : Sto) : Out Vl := match o with
  | some b => .ok (.bl b) S
  | none => .bad
def kIsE (o : Out Vl) (ans : Vl → Option Bool) : Out Vl := o.bind fun v S1 => kIsE2 (ans v) S1
theorem xIsE_e : xIsE ans f2 env S = kIsE (f2 env S) ans := rfl
theorem kIsE_ok : kIsE (.ok v S) ans = kIsE2 (ans v) S := rfl
theorem kIsE2_s : kIsE2 (some b) S = .ok (.bl b) S := rfl
end
end Nt

namespace Nt
open PySem PySem.Spec PyProof.Rows L2 Evl
/-! ### loops, promises -/
/-- a while loop with a measure: it goes on, or returns, or ends -/
theorem whileZ_inv {t : XT} {f : ZS} (P : Nat → En → Sto → Prop) (Q : En → Sto → Prop)
    (h : ∀ n env S, P n env S → (∃ S1, t env S = .ok false S1 ∧ Q env S1) ∨ (∃ S1 n' e S2, t env S = .ok true S1 ∧ (f env S1 = .ok (.nx e) S2 ∨ f env S1 = .ok (.ct e) S2) ∧ n' < n ∧ P n' e S2) ∨ (∃ S1 e S2, t env S = .ok true S1 ∧ f env S1 = .ok (.bk e) S2 ∧ Q e S2)) :
    ∀ (φ n : Nat) env S, n < φ → P n env S → ∃ e S', whileZ t f φ env S = .ok (.nx e) S' ∧ Q e S'
  | 0, n, env, S, hn, _ => absurd hn (Nat.not_lt_zero _)
  | φ + 1, n, env, S, hn, hP => by
    rcases h n env S hP with ⟨S1, h1, h2⟩ | ⟨S1, n', e, S2, h1, h2, h3, h4⟩ | ⟨S1, e, S2, h1, h2, h3⟩
    · refine ⟨env, S1, ?_, h2⟩
      rw [whileZ, h1]; rfl
    · obtain ⟨e', S', h5, h6⟩ := whileZ_inv P Q h φ n' e S2 (by omega) h4
      refine ⟨e', S', ?_, h6⟩
      rw [whileZ, h1, Out.bindS_ok, if_pos rfl]
      rcases h2 with h2 | h2 <;> (rw [h2]; exact h5)
    · refine ⟨e, S2, ?_, h3⟩
      rw [whileZ, h1, Out.bindS_ok, if_pos rfl, h2]
/-- the same, where it may return -/
theorem whileZ_ret {t : XT} {f : ZS} (P : Nat → En → Sto → Prop) (Q : Fl → Sto → Prop)
    (h : ∀ n env S, P n env S → (∃ S1, t env S = .ok false S1 ∧ Q (.nx env) S1) ∨ (∃ S1 n' e S2, t env S = .ok true S1 ∧ (f env S1 = .ok (.nx e) S2 ∨ f env S1 = .ok (.ct e) S2) ∧ n' < n ∧ P n' e S2) ∨ (∃ S1 e S2, t env S = .ok true S1 ∧ f env S1 = .ok (.bk e) S2 ∧ Q (.nx e) S2) ∨ (∃ S1 v S2, t env S = .ok true S1 ∧ f env S1 = .ok (.rt v) S2 ∧ Q (.rt v) S2)) :
    ∀ (φ n : Nat) env S, n < φ → P n env S → ∃ o S', whileZ t f φ env S = .ok o S' ∧ Q o S'
  | 0, n, env, S, hn, _ => absurd hn (Nat.not_lt_zero _)
  | φ + 1, n, env, S, hn, hP => by
    rcases h n env S hP with ⟨S1, h1, h2⟩ | ⟨S1, n', e, S2, h1, h2, h3, h4⟩ | ⟨S1, e, S2, h1, h2, h3⟩ | ⟨S1, v, S2, h1, h2, h3⟩
    · refine ⟨.nx env, S1, ?_, h2⟩
      rw [whileZ, h1]; rfl
    · obtain ⟨o, S', h5, h6⟩ := whileZ_ret P Q h φ n' e S2 (by omega) h4
      refine ⟨o, S', ?_, h6⟩
      rw [whileZ, h1, Out.bindS_ok, if_pos rfl]
      rcases h2 with h2 | h2 <;> (rw [h2]; exact h5)
    · refine ⟨.nx e, S2, ?_, h3⟩
      rw [whileZ, h1, Out.bindS_ok, if_pos rfl, h2]
    · refine ⟨.rt v, S2, ?_, h3⟩
      rw [whileZ, h1, Out.bindS_ok, if_pos rfl, h2]
theorem zWhile_e {φ : Nat} {t : XT} {f : ZS} {env : En} {S : Sto} : zWhile φ t f env S = whileZ t f φ env S := rfl
theorem ipow_le {a : Nat} (ha : 0 < a) {i j : Nat} (h : i ≤ j) : (a : Int) ^ i ≤ (a : Int) ^ j := by
  rw [← Int.natCast_pow, ← Int.natCast_pow]
  exact Int.ofNat_le.mpr (Nat.pow_le_pow_right ha h)
theorem ni1 {a b : Nat} (h : a ≠ b) : a ∉ [b] := by
  intro q
  rw [List.mem_singleton] at q
  exact h q
theorem ni2 {a b c : Nat} (h : a ≠ b) (h2 : a ≠ c) : a ∉ [b, c] := by
  intro q
  rw [List.mem_cons, List.mem_singleton] at q
  rcases q with q | q
  · exact h q
  · exact h2 q
/-! ### places of a store -/
theorem set_same {S : Sto} {i : Nat} {o : Ob} (h : S[i]? = some o) : S.set i o = S := by
  apply List.ext_getElem?
  intro j
  by_cases e : i = j
  · subst e; rw [get_set h, h]
  · rw [get_set_ne e]
theorem set_new {S : Sto} {a b : Ob} : (S ++ [a]).set S.length b = S ++ [b] := by
  rw [List.set_append_right _ _ (Nat.le_refl _), Nat.sub_self]; rfl
theorem get_at0 {S : Sto} {a : Ob} {T : Sto} : (S ++ a :: T)[S.length]? = some a := by
  rw [List.getElem?_append_right (Nat.le_refl _), Nat.sub_self]; rfl
theorem get_at {S T : Sto} {k : Nat} : (S ++ T)[S.length + k]? = T[k]? := by
  rw [List.getElem?_append_right (by omega), Nat.add_sub_cancel_left]
theorem set_at0 {S : Sto} {a b : Ob} {T : Sto} : (S ++ a :: T).set S.length b = S ++ b :: T := by
  rw [List.set_append_right _ _ (Nat.le_refl _), Nat.sub_self]; rfl
theorem set_at {S T : Sto} {k : Nat} {b : Ob} : (S ++ T).set (S.length + k) b = S ++ T.set k b := by
  rw [List.set_append_right _ _ (by omega), Nat.add_sub_cancel_left]
/-! ### letters of short texts -/
theorem ix_ab0 {S : Sto} : vIx (.str "ab") (.int 0) S = .ok (.str "a") S := by
  rw [vIx, if_pos (by decide +kernel)]; rfl
theorem ix_ab1 {S : Sto} : vIx (.str "ab") (.int 1) S = .ok (.str "b") S := by
  rw [vIx, if_pos (by decide +kernel)]; rfl
theorem ix_di0 {S : Sto} : vIx (.str "+-=") (.int 0) S = .ok (.str "+") S := by
  rw [vIx, if_pos (by decide +kernel)]; rfl
theorem ix_di1 {S : Sto} : vIx (.str "+-=") (.int 1) S = .ok (.str "-") S := by
  rw [vIx, if_pos (by decide +kernel)]; rfl
theorem ix_di2 {S : Sto} : vIx (.str "+-=") (.int 2) S = .ok (.str "=") S := by
  rw [vIx, if_pos (by decide +kernel)]; rfl
/-! ### data as values that were made -/
def tv : PyData → Vl
  | .none => .non
  | .bool b => .bl b
  | .int i => .int i
  | .str s => .str s
  | .list _ => .non
  | .tuple xs => .tup (tvs xs)
  | .dict _ => .non
where tvs : List PyData → List Vl
  | [] => []
  | x :: xs => tv x :: tvs xs
theorem tvs_map : ∀ ds : List PyData, tv.tvs ds = ds.map tv
  | [] => by rw [tv.tvs]; rfl
  | d :: ds => by rw [tv.tvs, tvs_map ds]; rfl
theorem tv_tuple {ds : List PyData} : tv (.tuple ds) = .tup (ds.map tv) := by rw [tv, tvs_map]
theorem tv_int {i : Int} : tv (.int i) = .int i := by rw [tv]
theorem tv_str {z : Str} : tv (.str z) = .str z := by rw [tv]
theorem tv_bool {z : Bool} : tv (.bool z) = .bl z := by rw [tv]
theorem tv_none : tv .none = .non := by rw [tv]
end Nt

namespace Nt
open PySem PySem.Spec PyProof.Rows L2 Evl
/-! ### programs as trees -/
inductive Tm where
  | v (b : Bool) | k (n : Int)
inductive Sg where
  | eq | ne | lt
structure Cd where
  x : Bool
  s : Sg
  t : Tm
inductive Di where
  | pl | mi | at_
inductive Stm where
  | wait (n : Int) | set (x : Bool) (n : Int) | add (x : Bool) (t : Tm) | ask (s : Di) (t : Tm) (x : Bool) | answer (n : Int) | grow (t : Tm) | list (t : Tm)
  | whl (c : Cd) (b : List Stm) | ite (c : Cd) (b d : List Stm)
def dX (b : Bool) : Str := if b = true then "b" else "a"
theorem dX_t : dX true = "b" := rfl
theorem dX_f : dX false = "a" := rfl
def dT : Tm → PyData
  | .v b => .str (dX b)
  | .k n => .int n
def sG : Sg → Str
  | .eq => "=="
  | .ne => "!="
  | .lt => "<"
def sD : Di → Str
  | .pl => "+"
  | .mi => "-"
  | .at_ => "="
def dC (c : Cd) : PyData := .tuple [.str (dX c.x), .str (sG c.s), dT c.t]
mutual
def dS : Stm → PyData
  | .wait n => .tuple [.str "wait", .int n]
  | .set x n => .tuple [.str "set", .str (dX x), .int n]
  | .add x t => .tuple [.str "add", .str (dX x), dT t]
  | .ask s t x => .tuple [.str "ask", .str (sD s), dT t, .str (dX x)]
  | .answer n => .tuple [.str "answer", .int n]
  | .grow t => .tuple [.str "grow", dT t]
  | .list t => .tuple [.str "list", dT t]
  | .whl c b => .tuple [.str "while", dC c, .tuple (dB b)]
  | .ite c b d => .tuple [.str "if", dC c, .tuple (dB b), .tuple (dB d)]
def dB : List Stm → List PyData
  | [] => []
  | s :: ss => dS s :: dB ss
end
theorem dB_map : ∀ b : List Stm, dB b = b.map dS
  | [] => by rw [dB]; rfl
  | s :: ss => by rw [dB, dB_map ss]; rfl
def okT : Tm → Prop
  | .v _ => True
  | .k n => 0 ≤ n ∧ n ≤ 15
mutual
/-- a statement of a kind (true: collector), whose bodies go at most so deep -/
def okS (col : Bool) : Nat → Stm → Prop
  | _, .wait n => 1 ≤ n ∧ n ≤ 10 ^ 30
  | _, .set _ n => 0 ≤ n ∧ n ≤ 15
  | _, .add _ t => okT t
  | _, .ask _ t _ => okT t ∧ col = false
  | _, .answer n => (0 ≤ n ∧ n ≤ 1) ∧ col = false
  | _, .grow t => okT t ∧ col = true
  | _, .list t => okT t ∧ col = true
  | f, .whl c b => okT c.t ∧ okB col f b
  | f, .ite c b d => okT c.t ∧ okB col f b ∧ okB col f d
def okB (col : Bool) : Nat → List Stm → Prop
  | _, [] => True
  | 0, _ :: _ => False
  | f + 1, s :: ss => okS col f s ∧ okB col (f + 1) ss
end
mutual
def szS : Stm → Nat
  | .whl _ b => 1 + szB b
  | .ite _ b d => 1 + (szB b + szB d)
  | _ => 1
def szB : List Stm → Nat
  | [] => 0
  | s :: ss => szS s + szB ss
end
theorem szB_append : ∀ a b : List Stm, szB (a ++ b) = szB a + szB b
  | [], b => by rw [List.nil_append, szB]; omega
  | s :: ss, b => by rw [List.cons_append, szB, szB, szB_append ss b]; omega
theorem okB_append {col : Bool} {f : Nat} : ∀ {a b : List Stm}, okB col f a → okB col f b → okB col f (a ++ b)
  | [], _, _, h => h
  | s :: ss, b, h1, h2 => by
    cases f with
    | zero => rw [okB] at h1; exact h1.elim
    | succ f =>
      rw [okB] at h1
      rw [List.cons_append, okB]
      exact ⟨h1.1, okB_append h1.2 h2⟩
def sK (col : Bool) : Str := if col = true then "collector" else "teller"
/-! the instructions -/
inductive In where
  | wait (n : Int) | set (x : Bool) (n : Int) | add (x : Bool) (t : Tm) | ask (s : Di) (t : Tm) (x : Bool) | answer (n : Int) | grow (t : Tm) | list (t : Tm)
  | test (c : Cd) (n : Nat) | jump (n : Nat)
def dI : In → PyData
  | .wait n => .tuple [.str "wait", .int n]
  | .set x n => .tuple [.str "set", .str (dX x), .int n]
  | .add x t => .tuple [.str "add", .str (dX x), dT t]
  | .ask s t x => .tuple [.str "ask", .str (sD s), dT t, .str (dX x)]
  | .answer n => .tuple [.str "answer", .int n]
  | .grow t => .tuple [.str "grow", dT t]
  | .list t => .tuple [.str "list", dT t]
  | .test c n => .tuple [.str "test", dC c, .int (n : Int)]
  | .jump n => .tuple [.str "jump", .int (n : Int)]
mutual
def cS : Nat → Stm → List In
  | _, .wait n => [.wait n]
  | _, .set x n => [.set x n]
  | _, .add x t => [.add x t]
  | _, .ask s t x => [.ask s t x]
  | _, .answer n => [.answer n]
  | _, .grow t => [.grow t]
  | _, .list t => [.list t]
  | n, .whl c b => .test c (n + (cB (n + 1) b).length + 2) :: (cB (n + 1) b ++ [.jump n])
  | n, .ite c b [] => .test c (n + (cB (n + 1) b).length + 1) :: cB (n + 1) b
  | n, .ite c b (s :: ss) => .test c (n + (cB (n + 1) b).length + 2) :: (cB (n + 1) b ++ .jump (n + (cB (n + 1) b).length + 2 + (cS (n + (cB (n + 1) b).length + 2) s ++ cB (n + (cB (n + 1) b).length + 2 + (cS (n + (cB (n + 1) b).length + 2) s).length) ss).length) :: (cS (n + (cB (n + 1) b).length + 2) s ++ cB (n + (cB (n + 1) b).length + 2 + (cS (n + (cB (n + 1) b).length + 2) s).length) ss))
def cB : Nat → List Stm → List In
  | _, [] => []
  | n, s :: ss => cS n s ++ cB (n + (cS n s).length) ss
end
end Nt

namespace Nt
open PySem PySem.Spec PyProof.Rows L2 Evl
/-! ### comprehensions, whatever they do -/
theorem comp_inv {I : Itm} {k : Nat} {t : XT} {e : XE'} {env : En} {D : Nat} (xs : List Vl) (P : Nat → List Vl → Sto → Prop)
    (hI : ∀ i ys S, P i ys S → I.nxt i S = (match xs[i]? with | some x => .yld x S | none => .stop))
    (hs : ∀ i x ys S, xs[i]? = some x → P i ys S → ∃ b S1, t (env.set k (some x)) S = .ok b S1 ∧ ((b = false ∧ P (i + 1) ys S1) ∨ (b = true ∧ ∃ y S2, e (env.set k (some x)) S1 = .ok y S2 ∧ S2[D]? = some (.lst ys) ∧ ys.length < 100000 ∧ P (i + 1) (ys ++ [y]) (S2.set D (.lst (ys ++ [y])))))) :
    ∀ (n i : Nat) (ys : List Vl) (S : Sto), xs.length ≤ n + i → i ≤ xs.length → P i ys S → ∃ ys' S', compZ I (gmName k) t e env D n i S = .ok () S' ∧ P xs.length ys' S'
  | n, i, ys, S, hn, hi, hP => by
    rw [compZ_eq, hI i ys S hP]
    cases hx : xs[i]? with
    | none =>
      have : xs.length ≤ i := List.getElem?_eq_none_iff.mp hx
      have e : i = xs.length := by omega
      subst e
      exact ⟨ys, S, rfl, hP⟩
    | some x =>
      have hl : i < xs.length := (List.getElem?_eq_some_iff.mp hx).1
      cases n with
      | zero => omega
      | succ n =>
        obtain ⟨b, S1, h1, h2⟩ := hs i x ys S hx hP
        dsimp only
        rw [gmName_e]
        dsimp only
        rw [h1]
        dsimp only
        rcases h2 with ⟨rfl, h2⟩ | ⟨rfl, y, S2, h2, h3, h4, h5⟩
        · rw [if_neg Bool.false_ne_true]
          exact comp_inv xs P hI hs n (i + 1) ys S1 (by omega) (by omega) h2
        · rw [if_pos rfl, h2]
          dsimp only
          rw [h3]
          dsimp only
          rw [if_pos h4]
          exact comp_inv xs P hI hs n (i + 1) (ys ++ [y]) _ (by omega) (by omega) h5
theorem lc_inv {I : Itm} {it : En → Sto → Out Itm} {k : Nat} {t : XT} {e : XE'} {vs : List Nat} {env env' : En} {S S1 : Sto} (xs : List Vl) (P : Nat → List Vl → Sto → Prop) (hit : it env S = .ok I S1) (hw : wipeE env vs = env') (hf : I.fuel = xs.length)
    (hI : ∀ i ys S, P i ys S → I.nxt i S = (match xs[i]? with | some x => .yld x S | none => .stop))
    (hs : ∀ i x ys S, xs[i]? = some x → P i ys S → ∃ b S1', t (env'.set k (some x)) S = .ok b S1' ∧ ((b = false ∧ P (i + 1) ys S1') ∨ (b = true ∧ ∃ y S2, e (env'.set k (some x)) S1' = .ok y S2 ∧ S2[S1.length]? = some (.lst ys) ∧ ys.length < 100000 ∧ P (i + 1) (ys ++ [y]) (S2.set S1.length (.lst (ys ++ [y]))))))
    (h0 : P 0 [] (S1 ++ [.lst []])) : ∃ ys S', xLc it (gmName k) t e vs env S = .ok (.ref S1.length) S' ∧ P xs.length ys S' := by
  obtain ⟨ys, S', h1, h2⟩ := comp_inv (I := I) (k := k) (t := t) (e := e) (env := env') (D := S1.length) xs P hI hs xs.length 0 [] _ (by omega) (by omega) h0
  refine ⟨ys, S', ?_, h2⟩
  unfold xLc
  rw [hit, Out.bind_ok, hw, hf, h1]; rfl
/-- integers of a list by a test that changes nothing -/
theorem lc_filter {it : En → Sto → Out Itm} {j k : Nat} {t : XT} {vs : List Nat} {env env' : En} {S : Sto} {ms : List Int} (f : Int → Bool) (hit : it env S = .ok (itL j (ms.map Vl.int).length) S) (hw : wipeE env vs = env') (hj : S[j]? = some (.lst (ms.map .int))) (hl : ms.length < 90000) (hk : k < env'.length)
    (ht : ∀ acc p, p ∈ ms → t (env'.set k (some (.int p))) (S ++ [.lst acc]) = .ok (f p) (S ++ [.lst acc])) : xLc it (gmName k) t (xVar k) vs env S = .ok (.ref S.length) (S ++ [.lst ((ms.filter f).map .int)]) := by
  have hlt := get_lt hj
  obtain ⟨ys, S', h1, h2, h3⟩ := lc_inv (I := itL j (ms.map Vl.int).length) (k := k) (t := t) (e := xVar k) (vs := vs) (env := env) (env' := env') (ms.map Vl.int) (fun i ys S' => ys = ((ms.take i).filter f).map .int ∧ S' = S ++ [.lst ys]) hit hw rfl
    (fun i ys S' ⟨_, h⟩ => by
      subst h
      exact nxt_L (get_app hj))
    (fun i x ys S' hx ⟨hy, h⟩ => by
      subst h
      rw [List.getElem?_map] at hx
      cases hm : ms[i]? with
      | none => rw [hm] at hx; cases hx
      | some p =>
        rw [hm] at hx
        cases hx
        have hp := List.mem_of_getElem? hm
        have htk : ms.take (i + 1) = ms.take i ++ [p] := by rw [List.take_add_one, hm]; rfl
        refine ⟨f p, _, ht ys p hp, ?_⟩
        cases hf : f p with
        | false =>
          refine .inl ⟨rfl, ?_, rfl⟩
          rw [htk, List.filter_append, List.filter_cons, if_neg (by rw [hf]; exact Bool.false_ne_true), List.filter_nil, List.append_nil]
          exact hy
        | true =>
          refine .inr ⟨rfl, .int p, S ++ [.lst ys], ?_, get_new, ?_, ?_, ?_⟩
          · show kVar ((env'.set k (some (Vl.int p)))[k]?) _ = _
            rw [List.getElem?_set, if_pos rfl, if_pos hk]; rfl
          · rw [hy, List.length_map]
            have h1 := List.length_filter_le f (ms.take i)
            have h2 := List.length_take_le i ms
            have h3 := List.length_take_le' i ms
            omega
          · rw [hy, htk, List.filter_append, List.filter_cons, if_pos hf, List.filter_nil, List.map_append]; rfl
          · rw [set_new])
    ⟨by simp, rfl⟩
  rw [h1, h3, h2, List.length_map, List.take_length]
/-! ### what is equal, what is in -/
theorem eqv_int {i j : Int} : PyData.eqv (.int i) (.int j) = decide (i = j) := by rw [PyData.eqv]; by_cases h : i = j <;> simp [h]
theorem allD_int {S : Sto} {n : Nat} : ∀ {l : List Int}, allD (toD (n + 1) S) (l.map Vl.int) = some (l.map PyData.int)
  | [] => rfl
  | k :: l => by rw [List.map_cons, allD, allD_int]; rfl
theorem in_ints {neg : Bool} {p : Int} {ms : List Int} {S : Sto} : seqIn neg (.int p) (ms.map .int) S = .ok (.bl (neg ^^ decide (p ∈ ms))) S := by
  unfold seqIn
  rw [allD_int]
  show Out.ok (Vl.bl (neg ^^ (ms.map PyData.int).any fun z => PyData.eqv z (.int p))) S = _
  have h : ((ms.map PyData.int).any fun z => PyData.eqv z (.int p)) = decide (p ∈ ms) := by
    rw [List.any_map]
    by_cases h : p ∈ ms
    · rw [decide_eq_true h, List.any_eq_true]
      exact ⟨p, h, by show PyData.eqv (.int p) (.int p) = true; rw [eqv_int]; simp⟩
    · rw [decide_eq_false h, List.any_eq_false]
      intro q hq e
      have e : PyData.eqv (.int q) (.int p) = true := e
      rw [eqv_int] at e
      exact h (of_decide_eq_true e ▸ hq)
  rw [h]
theorem toD_ints {S : Sto} {l : Nat} {ms : List Int} (h : S[l]? = some (.lst (ms.map .int))) : toD 60 S (.ref l) = some (.list (ms.map .int)) := by
  show (match S[l]? with
    | some (.lst xs) => (allD (toD 59 S) xs).map PyData.list
    | _ => none) = _
  rw [h]
  dsimp only
  rw [allD_int]; rfl
theorem eqvL_ints : ∀ (l m : List Int), PyData.eqvAll (l.map .int) (m.map .int) = decide (l = m)
  | [], [] => by rw [List.map_nil, PyData.eqvAll]; rfl
  | [], b :: m => by rw [List.map_nil, List.map_cons, PyData.eqvAll]; rfl
  | a :: l, [] => by rw [List.map_nil, List.map_cons, PyData.eqvAll]; rfl
  | a :: l, b :: m => by
    rw [List.map_cons, List.map_cons, PyData.eqvAll, eqv_int, eqvL_ints l m]
    by_cases h1 : a = b <;> by_cases h2 : l = m <;> simp [h1, h2]
theorem vNe_bl {a b : Bool} {S : Sto} : vNe (.bl a) (.bl b) S = .ok (.bl (a ^^ b)) S := by
  show Out.ok (Vl.bl (!PyData.eqv (.bool a) (.bool b))) S = _
  rw [PyData.eqv]
  cases a <;> cases b <;> rfl
theorem vNe_li {S : Sto} {i j : Nat} {l m : List Int} (h1 : S[i]? = some (.lst (l.map .int))) (h2 : S[j]? = some (.lst (m.map .int))) : vNe (.ref i) (.ref j) S = .ok (.bl (!decide (l = m))) S := by
  unfold vNe
  rw [toD_ints h1, toD_ints h2]
  dsimp only
  rw [PyData.eqv, eqvL_ints]
theorem vEq_li {S : Sto} {i j : Nat} {l m : List Int} (h1 : S[i]? = some (.lst (l.map .int))) (h2 : S[j]? = some (.lst (m.map .int))) : vEq (.ref i) (.ref j) S = .ok (.bl (decide (l = m))) S := by
  unfold vEq
  rw [toD_ints h1, toD_ints h2]
  dsimp only
  rw [PyData.eqv, eqvL_ints]
/-- a comprehension over a list that changes nothing -/
theorem lc_map {it : En → Sto → Out Itm} {j k : Nat} {e : XE'} {vs : List Nat} {env env' : En} {S : Sto} {xs : List Vl} (f : Vl → Vl) (hit : it env S = .ok (itL j xs.length) S) (hw : wipeE env vs = env') (hj : S[j]? = some (.lst xs)) (hl : xs.length < 90000)
    (he : ∀ acc x, x ∈ xs → e (env'.set k (some x)) (S ++ [.lst acc]) = .ok (f x) (S ++ [.lst acc])) : xLc it (gmName k) yYes e vs env S = .ok (.ref S.length) (S ++ [.lst (xs.map f)]) := by
  obtain ⟨ys, S', h1, h2, h3⟩ := lc_inv (I := itL j xs.length) (k := k) (t := yYes) (e := e) (vs := vs) (env := env) (env' := env') xs (fun i ys S' => ys = (xs.take i).map f ∧ S' = S ++ [.lst ys]) hit hw rfl
    (fun i ys S' ⟨_, h⟩ => by
      subst h
      exact nxt_L (get_app hj))
    (fun i x ys S' hx ⟨hy, h⟩ => by
      subst h
      have htk : xs.take (i + 1) = xs.take i ++ [x] := by rw [List.take_add_one, hx]; rfl
      refine ⟨true, _, rfl, .inr ⟨rfl, f x, S ++ [.lst ys], he ys x (List.mem_of_getElem? hx), get_new, ?_, ?_, ?_⟩⟩
      · rw [hy, List.length_map]
        have h3 := List.length_take_le' i xs
        omega
      · rw [hy, htk, List.map_append]; rfl
      · rw [set_new])
    ⟨rfl, rfl⟩
  rw [h1, h3, h2, List.take_length]
theorem toBools_t : ∀ {xs : List Vl}, toBools (xs.map fun _ => Vl.bl true) = some (xs.map fun _ => true)
  | [] => rfl
  | x :: xs => by
    show (toBools (xs.map fun _ => Vl.bl true)).map (true :: ·) = _
    rw [toBools_t]; rfl
theorem all_tt {α : Type} : ∀ {xs : List α}, (xs.map fun _ => true).all id = true
  | [] => rfl
  | x :: xs => by rw [List.map_cons, List.all_cons, all_tt]; rfl
theorem vAll_tt {S : Sto} {xs : List Vl} : vAll [.ref S.length] (S ++ [.lst (xs.map fun _ => Vl.bl true)]) = .ok (.bl true) (S ++ [.lst (xs.map fun _ => Vl.bl true)]) := by
  unfold vAll
  dsimp only
  rw [get_new]
  dsimp only
  rw [toBools_t]
  dsimp only
  rw [all_tt]
theorem get_keep {S T : Sto} {i j : Nat} {o p : Ob} (h : S[j]? = some o) (n : i ≠ j) (e : S.set i p = T) : T[j]? = some o := by
  rw [← e, get_set_ne n]; exact h
end Nt

namespace Nt
open PySem PySem.Spec PyProof.Rows L2 Evl
/-! ### programs.py: the mirror -/
def vars : List Str := ["a", "b"]
def comps : List Str := ["==", "!=", "<"]
def dirs : List Str := ["+", "-", "="]
def isI : PyData → Bool
  | .int _ => true
  | _ => false
def isOne (ns : List Str) : PyData → Bool
  | .str s => ns.contains s
  | _ => false
def isVal : PyData → Bool
  | .int i => decide (0 ≤ i) && decide (i < 16)
  | _ => false
def isTerm (d : PyData) : Bool := isVal d || isOne vars d
def isCond : PyData → Bool
  | .tuple [v, s, t] => isOne vars v && (isOne comps s && isTerm t)
  | _ => false
def pSet : List PyData → Bool
  | [v, x] => isOne vars v && isVal x
  | _ => false
def pAdd : List PyData → Bool
  | [v, x] => isOne vars v && isTerm x
  | _ => false
def pWait : List PyData → Bool
  | [.int i] => decide (1 ≤ i) && decide (i ≤ 1000000000000000000000000000000)
  | _ => false
def pAsk : List PyData → Bool
  | [s, t, v] => isOne dirs s && (isTerm t && isOne vars v)
  | _ => false
def pAns : List PyData → Bool
  | [.int i] => decide (0 ≤ i) && decide (i ≤ 1)
  | _ => false
def pTerm : List PyData → Bool
  | [t] => isTerm t
  | _ => false
theorem in_strs (s : Str) (ns : List Str) : inV (.str s) (ns.map V.str) = ns.contains s := by
  unfold inV
  rw [List.contains_eq_any_beq, List.any_map]
  congr 1
  funext y
  show eqV (V.str y) (V.str s) = (s == y)
  simp only [eqV]
  by_cases h : y = s
  · subst h; simp
  · have h1 : (y == s) = false := beq_eq_false_iff_ne.mpr h
    have h2 : (s == y) = false := beq_eq_false_iff_ne.mpr fun q => h q.symm
    rw [h1, h2]
theorem flat_strs (ns : List Str) : (ns.map V.str).all flatV = true := by
  rw [List.all_map]
  exact List.all_eq_true.mpr fun _ _ => rfl
def spOne (K : PySem.W.Frag) : Sp := fun vs H Q _ => ∃ (v : V) (d : PyData) (a : Addr) (ns : List Str), vs = [v, .ref a] ∧ Dp K H v d ∧ SqT K H a (ns.map V.str) ∧ ∀ H', Same H H' → Q (.bl (isOne ns d)) H'
theorem spvOne {K : PySem.W.Frag} {v : V} {d : PyData} {a : Addr} {ns : List Str} {H : Hp} (h : Dp K H v d) (ha : SqT K H a (ns.map V.str)) : SpV (spOne K) [v, .ref a] H (.bl (isOne ns d)) := fun H1 e Q q E =>
  ⟨v, d, a, ns, rfl, dp_mono e h, ex_t e ha, fun H' e' => q H' e'⟩
def spL (K : PySem.W.Frag) (f : List PyData → Bool) : Sp := fun vs H Q _ => ∃ (a : Addr) (xs : List V) (ds : List PyData), vs = [.ref a] ∧ SqL K H a xs ∧ DpAll K H xs ds ∧ ∀ H', Same H H' → Q (.bl (f ds)) H'
section
variable {P : Program} {w : World} {K : PySem.W.Frag} {mg : Str → Option Value} {base : Heap}
theorem ok_is_integer (T : Txt w K mg) : Def P w K mg base CX0 1 "is_integer" ["thing"] (sp1 K fun d => .bl (isI d)) := by
  refine mkDef T.F_is_integer T.g_is_integer sc_is_integer (fun _ _ _ _ _ _ us hl => match us, hl with | [_], _ => rfl) (fun vs H Q E h => ?_) (fun cdv A outer s H vs Q E hr h => ?_)
  · obtain ⟨v, d, rfl, _⟩ := h; rfl
  · obtain ⟨v, d, rfl, hd, k⟩ := h
    refine ⟨_, (PSs.nox (pss_one (ps_ret (pe_and (pe_callB call_isi (by rfl) T.m_isinstance boot_isinstance (pa_cons (pv 0) (pa_cons (pe_bltn (v := .ty "int") rfl T.m_int boot_int rfl) pa_nil))) (pe_one (pe_not (pe_callB call_isi (by rfl) T.m_isinstance boot_isinstance (pa_cons (pv 0) (pa_cons (pe_bltn (v := .ty "bool") rfl T.m_bool boot_bool rfl) pa_nil))))))))), ?_⟩
    refine s_ret (ev_is (ev_andV (ev_cb (ea_cons (ev_var rfl) (ea_cons ev_c ea_nil)) (isi_d hd (kit_int d))) fun _ => ev_notV (ev_cb (ea_cons (ev_var rfl) (ea_cons ev_c ea_nil)) (isi_d hd (kit_bool d)))) ?_) k
    cases d <;> rfl
theorem ok_is_one_of (T : Txt w K mg) : Def P w K mg base CX0 1 "is_one_of" ["thing", "names"] (spOne K) := by
  refine mkDef T.F_is_one_of T.g_is_one_of sc_is_one_of (fun _ _ _ _ _ _ us hl => match us, hl with | [_, _], _ => rfl) (fun vs H Q E h => ?_) (fun cdv A outer s H vs Q E hr h => ?_)
  · obtain ⟨v, d, a, ns, rfl, _⟩ := h; rfl
  · obtain ⟨v, d, a, ns, rfl, hd, ha, k⟩ := h
    refine ⟨_, (PSs.nox (pss_one (ps_ret (pe_and (pe_callB call_isi (by rfl) T.m_isinstance boot_isinstance (pa_cons (pv 0) (pa_cons (pe_bltn (v := .ty "str") rfl T.m_str boot_str rfl) pa_nil))) (pe_one (pe_cmpR op_in_seq (pv 0) (pv 1) (by rfl))))))), ?_⟩
    refine s_ret (ev_is (ev_andV (b := isOne ns d) (ev_cb (ea_cons (ev_var rfl) (ea_cons ev_c ea_nil)) (isi_d hd (kit_str d))) fun hs => ?_) ?_) k
    · cases hd with
      | str s => exact ev_is (ev_op (ev_var rfl) (ev_var rfl) (rv_isT ha rfl (flat_strs ns))) (by rw [in_strs]; rfl)
      | _ => cases hs
    · cases d <;> rfl
theorem ok_is_value (T : Txt w K mg) : Def P w K mg base CX0 2 "is_value" ["thing"] (sp1 K fun d => .bl (isVal d)) := by
  have D_is_integer := ok_is_integer (P := P) (base := base) T
  refine mkDef T.F_is_value T.g_is_value sc_is_value (fun _ _ _ _ _ _ us hl => match us, hl with | [_], _ => rfl) (fun vs H Q E h => ?_) (fun cdv A outer s H vs Q E hr h => ?_)
  · obtain ⟨v, d, rfl, _⟩ := h; rfl
  · obtain ⟨v, d, rfl, hd, k⟩ := h
    refine ⟨_, (PSs.nox (pss_one (ps_ret (pe_and (pe_callD D_is_integer (hr.mono (by omega)) rfl pass0 (pa_cons (pv 0) pa_nil)) (pe_one (pe_chain op_le op_lt pe_int (pv 0) (pe_gint rfl T.c_SIZE))))))), ?_⟩
    refine s_ret (ev_is (ev_andV (b := isVal d) (ev_call (ea_cons (ev_var rfl) ea_nil) (spv1 hd)) fun hs => ?_) ?_) k
    · cases hd with
      | int i => exact ev_chain ev_c (ev_var rfl) rv_le (fun _ => ev_c) (fun _ => rv_lt)
      | _ => cases hs
    · cases d <;> rfl
theorem ok_is_term (T : Txt w K mg) : Def P w K mg base CX0 3 "is_term" ["thing"] (sp1 K fun d => .bl (isTerm d)) := by
  have D_is_value := ok_is_value (P := P) (base := base) T
  have D_is_one_of := ok_is_one_of (P := P) (base := base) T
  refine mkDef T.F_is_term T.g_is_term sc_is_term (fun _ _ _ _ _ _ us hl => match us, hl with | [_], _ => rfl) (fun vs H Q E h => ?_) (fun cdv A outer s H vs Q E hr h => ?_)
  · obtain ⟨v, d, rfl, _⟩ := h; rfl
  · obtain ⟨v, d, rfl, hd, k⟩ := h
    refine ⟨_, (PSs.nox (pss_one (ps_ret (pe_or (pe_callD D_is_value (hr.mono (by omega)) rfl pass0 (pa_cons (pv 0) pa_nil)) (pe_one (pe_callD D_is_one_of (hr.mono (by omega)) rfl pass0 (pa_cons (pv 0) (pa_cons (pe_gref rfl T.g_VARIABLES) pa_nil)))))))), ?_⟩
    exact s_ret (ev_orV (ev_call (ea_cons (ev_var rfl) ea_nil) (spv1 hd)) fun _ => ev_call (ea_cons (ev_var rfl) (ea_cons ev_c ea_nil)) (spvOne (ns := vars) hd (T.t_VARIABLES _))) k
end

end Nt

namespace Nt
open PySem PySem.Spec PyProof.Rows L2 Evl
theorem len1 {α : Type} {xs : List α} (h : xs.length = 1) : ∃ a, xs = [a] := by
  match xs, h with
  | [a], _ => exact ⟨a, rfl⟩
theorem len2 {α : Type} {xs : List α} (h : xs.length = 2) : ∃ a b, xs = [a, b] := by
  match xs, h with
  | [a, b], _ => exact ⟨a, b, rfl⟩
theorem len3 {α : Type} {xs : List α} (h : xs.length = 3) : ∃ a b c, xs = [a, b, c] := by
  match xs, h with
  | [a, b, c], _ => exact ⟨a, b, c, rfl⟩
section
variable {K : PySem.W.Frag} {H : Hp}
theorem dp1 {x : V} {ds : List PyData} (h : DpAll K H [x] ds) : ∃ d, ds = [d] ∧ Dp K H x d := by
  cases h with
  | cons h1 h => cases h; exact ⟨_, rfl, h1⟩
theorem dp2 {x y : V} {ds : List PyData} (h : DpAll K H [x, y] ds) : ∃ d e, ds = [d, e] ∧ Dp K H x d ∧ Dp K H y e := by
  cases h with
  | cons h1 h =>
    obtain ⟨e, rfl, h2⟩ := dp1 h
    exact ⟨_, _, rfl, h1, h2⟩
theorem dp3 {x y z : V} {ds : List PyData} (h : DpAll K H [x, y, z] ds) : ∃ d e f, ds = [d, e, f] ∧ Dp K H x d ∧ Dp K H y e ∧ Dp K H z f := by
  cases h with
  | cons h1 h =>
    obtain ⟨e, f, rfl, h2, h3⟩ := dp2 h
    exact ⟨_, _, _, rfl, h1, h2, h3⟩
theorem dp_tupI {v : V} {d : PyData} (h : Dp K H v d) (ht : isTup d = true) : ∃ a xs ds, v = .ref a ∧ d = .tuple ds ∧ SqT K H a xs ∧ DpAll K H xs ds := by
  cases h with
  | tup h1 h2 => exact ⟨_, _, _, rfl, rfl, h1, h2⟩
  | _ => cases ht
theorem dp_strI {v : V} {d : PyData} (h : Dp K H v d) (ht : isStr d = true) : ∃ s, v = .str s ∧ d = .str s := by
  cases h with
  | str s => exact ⟨s, rfl, rfl⟩
  | _ => cases ht
end
theorem isCond_not {d : PyData} (h : isTup d = false) : isCond d = false := by
  cases d <;> first | rfl | cases h
theorem isCond_len {ds : List PyData} (h : ¬ ds.length = 3) : isCond (.tuple ds) = false := by
  match ds, h with
  | [], _ => rfl
  | [_], _ => rfl
  | [_, _], _ => rfl
  | [_, _, _], h => exact absurd rfl h
  | _ :: _ :: _ :: _ :: _, _ => rfl
theorem pSet_len {ds : List PyData} (h : ¬ ds.length = 2) : pSet ds = false := by
  match ds, h with
  | [], _ => rfl
  | [_], _ => rfl
  | [_, _], h => exact absurd rfl h
  | _ :: _ :: _ :: _, _ => rfl
theorem pAdd_len {ds : List PyData} (h : ¬ ds.length = 2) : pAdd ds = false := by
  match ds, h with
  | [], _ => rfl
  | [_], _ => rfl
  | [_, _], h => exact absurd rfl h
  | _ :: _ :: _ :: _, _ => rfl
theorem pAsk_len {ds : List PyData} (h : ¬ ds.length = 3) : pAsk ds = false := by
  match ds, h with
  | [], _ => rfl
  | [_], _ => rfl
  | [_, _], _ => rfl
  | [_, _, _], h => exact absurd rfl h
  | _ :: _ :: _ :: _ :: _, _ => rfl
theorem pWait_len {ds : List PyData} (h : ¬ ds.length = 1) : pWait ds = false := by
  match ds, h with
  | [], _ => rfl
  | [_], h => exact absurd rfl h
  | x :: _ :: _, _ => cases x <;> rfl
theorem pAns_len {ds : List PyData} (h : ¬ ds.length = 1) : pAns ds = false := by
  match ds, h with
  | [], _ => rfl
  | [_], h => exact absurd rfl h
  | x :: _ :: _, _ => cases x <;> rfl
theorem pTerm_len {ds : List PyData} (h : ¬ ds.length = 1) : pTerm ds = false := by
  match ds, h with
  | [], _ => rfl
  | [_], h => exact absurd rfl h
  | _ :: _ :: _, _ => rfl
theorem at0 {x : V} {xs : List V} : atI (x :: xs) 0 = some x := atI_nat (j := 0) rfl
theorem at1 {x y : V} {xs : List V} : atI (x :: y :: xs) 1 = some y := atI_nat (j := 1) rfl
theorem at2 {x y z : V} {xs : List V} : atI (x :: y :: z :: xs) 2 = some z := atI_nat (j := 2) rfl
theorem int_eq (n m : Nat) : (decide (V.int (n : Int) = V.int (m : Int))) = decide (n = m) := by
  by_cases h : n = m
  · subst h; simp
  · rw [decide_eq_false h, decide_eq_false]
    intro q; injection q with q; omega
theorem int_ne (n m : Nat) : (!decide (V.int (n : Int) = V.int (m : Int))) = !decide (n = m) := by rw [int_eq]
theorem and_len {f : List PyData → Bool} {ds : List PyData} {n : Nat} (h : ¬ ds.length = n → f ds = false) : V.bl (decide (ds.length = n) && f ds) = .bl (f ds) := by
  by_cases hn : ds.length = n
  · rw [decide_eq_true hn]; rfl
  · rw [h hn, Bool.and_false]
section
variable {K : PySem.W.Frag} {H : Hp} {σ : L2.St} {a : Addr} {xs : List V} {ds : List PyData} {t : TE}
/-- len(parts) == n and .. -/
theorem ev_lenAnd {n : Nat} {f : List PyData → Bool} {i : Nat} (h0 : σ[i]? = some (some (.ref a))) (hx : SqL K H a xs) (ha : DpAll K H xs ds) (hf : ¬ ds.length = n → f ds = false) (h : ds.length = n → Ev t σ H (.bl (f ds))) :
    Ev (tAndV (tOp rEq (tCB (rLenS K) (tCons (tVar i) tNil)) (tC (.int (n : Nat)))) t) σ H (.bl (f ds)) := by
  have hn := dpAll_len ha
  refine ev_is (ev_andV (a := decide (ds.length = n)) (b := f ds) (ev_is (ev_op (ev_cb (ea_cons (ev_var h0) ea_nil) (rc_lenL hx)) ev_c (rv_eq rfl)) (by rw [int_eq, hn])) fun hs => h (of_decide_eq_true hs)) (and_len hf)
end

end Nt

namespace Nt
open PySem PySem.Spec PyProof.Rows L2 Evl
section
variable {P : Program} {w : World} {K : PySem.W.Frag} {mg : Str → Option Value} {base : Heap}
theorem ok_is_condition (T : Txt w K mg) : Def P w K mg base CX0 4 "is_condition" ["thing"] (sp1 K fun d => .bl (isCond d)) := by
  have D_is_term := ok_is_term (P := P) (base := base) T
  have D_is_one_of := ok_is_one_of (P := P) (base := base) T
  refine mkDef T.F_is_condition T.g_is_condition sc_is_condition (fun _ _ _ _ _ _ us hl => match us, hl with | [_], _ => rfl) (fun vs H Q E h => ?_) (fun cdv A outer s H vs Q E hr h => ?_)
  · obtain ⟨v, d, rfl, _⟩ := h; rfl
  · obtain ⟨v, d, rfl, hd, k⟩ := h
    have k : ∀ H', Same H H' → Q (.bl (isCond d)) H' := k
    refine ⟨_, (PSs.nox (pss_cons (ps_if (PW.pt (pw_or (pt_not (pt_val (pe_callB call_isi (by rfl) T.m_isinstance boot_isinstance (pa_cons (pv 0) (pa_cons (pe_bltn (v := .ty "tuple") rfl T.m_tuple boot_tuple rfl) pa_nil))))) (pw_or1 (pt_cmpR op_ne (pe_callB call_len_seq (by rfl) T.m_len boot_len (pa_cons (pv 0) pa_nil)) pe_int (nomark _))))) (pss_one (ps_ret pe_bl)) pss_nil)
      (pss_cons (ps_asg (pv 0) (pg_tup (n := 3) rfl (pgs_cons (pg_name (i := 1) sc_is_condition.nd rfl (Or.inl rfl)) (pgs_cons (pg_name (i := 2) sc_is_condition.nd rfl (Or.inl rfl)) (pgs_cons (pg_name (i := 3) sc_is_condition.nd rfl (Or.inl rfl)) pgs_nil)))))
      (pss_one (ps_ret (pe_and (pe_callD D_is_one_of (hr.mono (by omega)) rfl pass0 (pa_cons (pv 1) (pa_cons (pe_gref rfl T.g_VARIABLES) pa_nil))) (pe_and (pe_callD D_is_one_of (hr.mono (by omega)) rfl pass0 (pa_cons (pv 2) (pa_cons (pe_gref rfl T.g_COMPARISONS) pa_nil))) (pe_one (pe_callD D_is_term (hr.mono (by omega)) rfl pass0 (pa_cons (pv 3) pa_nil)))))))))), ?_⟩
    cases ht : isTup d with
    | false =>
      refine q_when (b := true) (et_or (b := true) (et_not (et_B (ev_cb (ea_cons (ev_var rfl) (ea_cons ev_c ea_nil)) (isi_d hd ((kit_tup d).trans (congrArg some ht)))))) fun q => by cases q) (fun _ H1 e => s_ret ev_c fun H2 e2 => ?_) fun q => by cases q
      have := k H2 (e.trans e2)
      rw [isCond_not ht] at this
      exact this
    | true =>
      obtain ⟨a, xs, ds, rfl, rfl, hx, ha⟩ := dp_tupI hd ht
      have hn := dpAll_len ha
      refine q_when (et_or (b := !decide (xs.length = 3)) (et_not (et_B (ev_cb (ea_cons (ev_var rfl) (ea_cons ev_c ea_nil)) (isi_d hd (kit_tup _))))) fun _ => et_is (et_test (ev_op (ev_cb (ea_cons (ev_var rfl) ea_nil) (rc_lenT hx)) ev_c (rv_ne rfl))) (int_ne xs.length 3)) ?_ ?_
      · intro hb H1 e
        have h3 : ¬ ds.length = 3 := fun q => by rw [← hn] at q; rw [q] at hb; cases hb
        refine s_ret ev_c fun H2 e2 => ?_
        have := k H2 (e.trans e2)
        rw [isCond_len h3] at this
        exact this
      · intro hb H1 e
        have h3 : xs.length = 3 := by
          by_cases q : xs.length = 3
          · exact q
          · rw [decide_eq_false q] at hb; cases hb
        obtain ⟨x, y, z, rfl⟩ := len3 h3
        obtain ⟨dx, dy, dz, rfl, hx1, hx2, hx3⟩ := dp3 ha
        refine ⟨_, rfl, a, _, rfl, ex_t e hx, rfl, _, _, rfl, _, _, rfl, _, _, rfl, rfl, ?_⟩
        exact s_ret (ev_andV (ev_call (ea_cons (ev_var rfl) (ea_cons ev_c ea_nil)) (spvOne (ns := vars) (dp_mono e hx1) (T.t_VARIABLES _))) fun _ =>
            ev_andV (ev_call (ea_cons (ev_var rfl) (ea_cons ev_c ea_nil)) (spvOne (ns := comps) (dp_mono e hx2) (T.t_COMPARISONS _))) fun _ => ev_call (ea_cons (ev_var rfl) ea_nil) (spv1 (dp_mono e hx3))) fun H2 e2 => k H2 (e.trans e2)
theorem ok_is_set (T : Txt w K mg) : Def P w K mg base CX0 3 "is_set" ["parts"] (spL K pSet) := by
  have D_is_value := ok_is_value (P := P) (base := base) T
  have D_is_one_of := ok_is_one_of (P := P) (base := base) T
  refine mkDef T.F_is_set T.g_is_set sc_is_set (fun _ _ _ _ _ _ us hl => match us, hl with | [_], _ => rfl) (fun vs H Q E h => ?_) (fun cdv A outer s H vs Q E hr h => ?_)
  · obtain ⟨a, xs, ds, rfl, _⟩ := h; rfl
  · obtain ⟨a, xs, ds, rfl, hx, ha, k⟩ := h
    refine ⟨_, (PSs.nox (pss_one (ps_ret (pe_and (pe_cmpR op_eq (pe_callB call_len_seq (by rfl) T.m_len boot_len (pa_cons (pv 0) pa_nil)) pe_int (nomark _)) (pe_and (pe_callD D_is_one_of (hr.mono (by omega)) rfl pass0 (pa_cons (pe_ix ix_list (pv 0) pe_int (fun _ _ => rfl)) (pa_cons (pe_gref rfl T.g_VARIABLES) pa_nil))) (pe_one (pe_callD D_is_value (hr.mono (by omega)) rfl pass0 (pa_cons (pe_ix ix_list (pv 0) pe_int (fun _ _ => rfl)) pa_nil)))))))), ?_⟩
    refine s_ret (ev_lenAnd rfl hx ha pSet_len fun hn => ?_) k
    obtain ⟨x, y, rfl⟩ := len2 ((dpAll_len ha).trans hn)
    obtain ⟨dx, dy, rfl, h1, h2⟩ := dp2 ha
    exact ev_andV (ev_call (ea_cons (ev_op (ev_var rfl) ev_c (rv_ixL hx at0)) (ea_cons ev_c ea_nil)) (spvOne (ns := vars) h1 (T.t_VARIABLES _))) fun _ => ev_call (ea_cons (ev_op (ev_var rfl) ev_c (rv_ixL hx at1)) ea_nil) (spv1 h2)
theorem ok_is_add (T : Txt w K mg) : Def P w K mg base CX0 4 "is_add" ["parts"] (spL K pAdd) := by
  have D_is_term := ok_is_term (P := P) (base := base) T
  have D_is_one_of := ok_is_one_of (P := P) (base := base) T
  refine mkDef T.F_is_add T.g_is_add sc_is_add (fun _ _ _ _ _ _ us hl => match us, hl with | [_], _ => rfl) (fun vs H Q E h => ?_) (fun cdv A outer s H vs Q E hr h => ?_)
  · obtain ⟨a, xs, ds, rfl, _⟩ := h; rfl
  · obtain ⟨a, xs, ds, rfl, hx, ha, k⟩ := h
    refine ⟨_, (PSs.nox (pss_one (ps_ret (pe_and (pe_cmpR op_eq (pe_callB call_len_seq (by rfl) T.m_len boot_len (pa_cons (pv 0) pa_nil)) pe_int (nomark _)) (pe_and (pe_callD D_is_one_of (hr.mono (by omega)) rfl pass0 (pa_cons (pe_ix ix_list (pv 0) pe_int (fun _ _ => rfl)) (pa_cons (pe_gref rfl T.g_VARIABLES) pa_nil))) (pe_one (pe_callD D_is_term (hr.mono (by omega)) rfl pass0 (pa_cons (pe_ix ix_list (pv 0) pe_int (fun _ _ => rfl)) pa_nil)))))))), ?_⟩
    refine s_ret (ev_lenAnd rfl hx ha pAdd_len fun hn => ?_) k
    obtain ⟨x, y, rfl⟩ := len2 ((dpAll_len ha).trans hn)
    obtain ⟨dx, dy, rfl, h1, h2⟩ := dp2 ha
    exact ev_andV (ev_call (ea_cons (ev_op (ev_var rfl) ev_c (rv_ixL hx at0)) (ea_cons ev_c ea_nil)) (spvOne (ns := vars) h1 (T.t_VARIABLES _))) fun _ => ev_call (ea_cons (ev_op (ev_var rfl) ev_c (rv_ixL hx at1)) ea_nil) (spv1 h2)
theorem ok_is_wait (T : Txt w K mg) : Def P w K mg base CX0 2 "is_wait" ["parts"] (spL K pWait) := by
  have D_is_integer := ok_is_integer (P := P) (base := base) T
  refine mkDef T.F_is_wait T.g_is_wait sc_is_wait (fun _ _ _ _ _ _ us hl => match us, hl with | [_], _ => rfl) (fun vs H Q E h => ?_) (fun cdv A outer s H vs Q E hr h => ?_)
  · obtain ⟨a, xs, ds, rfl, _⟩ := h; rfl
  · obtain ⟨a, xs, ds, rfl, hx, ha, k⟩ := h
    refine ⟨_, (PSs.nox (pss_one (ps_ret (pe_and (pe_cmpR op_eq (pe_callB call_len_seq (by rfl) T.m_len boot_len (pa_cons (pv 0) pa_nil)) pe_int (nomark _)) (pe_and (pe_callD D_is_integer (hr.mono (by omega)) rfl pass0 (pa_cons (pe_ix ix_list (pv 0) pe_int (fun _ _ => rfl)) pa_nil)) (pe_one (pe_chain op_le op_le pe_int (pe_ix ix_list (pv 0) pe_int (fun _ _ => rfl)) (pe_gint rfl T.c_LONGEST_WAIT)))))))), ?_⟩
    refine s_ret (ev_lenAnd rfl hx ha pWait_len fun hn => ?_) k
    obtain ⟨x, rfl⟩ := len1 ((dpAll_len ha).trans hn)
    obtain ⟨dx, rfl, h1⟩ := dp1 ha
    refine ev_is (ev_andV (b := pWait [dx]) (ev_call (ea_cons (ev_op (ev_var rfl) ev_c (rv_ixL hx at0)) ea_nil) (spv1 h1)) fun hs => ?_) ?_
    · cases h1 with
      | int i => exact ev_chain ev_c (ev_op (ev_var rfl) ev_c (rv_ixL hx at0)) rv_le (fun _ => ev_c) (fun _ => rv_le)
      | _ => cases hs
    · cases dx <;> rfl
theorem ok_is_answer (T : Txt w K mg) : Def P w K mg base CX0 2 "is_answer" ["parts"] (spL K pAns) := by
  have D_is_integer := ok_is_integer (P := P) (base := base) T
  refine mkDef T.F_is_answer T.g_is_answer sc_is_answer (fun _ _ _ _ _ _ us hl => match us, hl with | [_], _ => rfl) (fun vs H Q E h => ?_) (fun cdv A outer s H vs Q E hr h => ?_)
  · obtain ⟨a, xs, ds, rfl, _⟩ := h; rfl
  · obtain ⟨a, xs, ds, rfl, hx, ha, k⟩ := h
    refine ⟨_, (PSs.nox (pss_one (ps_ret (pe_and (pe_cmpR op_eq (pe_callB call_len_seq (by rfl) T.m_len boot_len (pa_cons (pv 0) pa_nil)) pe_int (nomark _)) (pe_and (pe_callD D_is_integer (hr.mono (by omega)) rfl pass0 (pa_cons (pe_ix ix_list (pv 0) pe_int (fun _ _ => rfl)) pa_nil)) (pe_one (pe_chain op_le op_le pe_int (pe_ix ix_list (pv 0) pe_int (fun _ _ => rfl)) pe_int))))))), ?_⟩
    refine s_ret (ev_lenAnd rfl hx ha pAns_len fun hn => ?_) k
    obtain ⟨x, rfl⟩ := len1 ((dpAll_len ha).trans hn)
    obtain ⟨dx, rfl, h1⟩ := dp1 ha
    refine ev_is (ev_andV (b := pAns [dx]) (ev_call (ea_cons (ev_op (ev_var rfl) ev_c (rv_ixL hx at0)) ea_nil) (spv1 h1)) fun hs => ?_) ?_
    · cases h1 with
      | int i => exact ev_chain ev_c (ev_op (ev_var rfl) ev_c (rv_ixL hx at0)) rv_le (fun _ => ev_c) (fun _ => rv_le)
      | _ => cases hs
    · cases dx <;> rfl
theorem ok_is_one_term (T : Txt w K mg) : Def P w K mg base CX0 4 "is_one_term" ["parts"] (spL K pTerm) := by
  have D_is_term := ok_is_term (P := P) (base := base) T
  refine mkDef T.F_is_one_term T.g_is_one_term sc_is_one_term (fun _ _ _ _ _ _ us hl => match us, hl with | [_], _ => rfl) (fun vs H Q E h => ?_) (fun cdv A outer s H vs Q E hr h => ?_)
  · obtain ⟨a, xs, ds, rfl, _⟩ := h; rfl
  · obtain ⟨a, xs, ds, rfl, hx, ha, k⟩ := h
    refine ⟨_, (PSs.nox (pss_one (ps_ret (pe_and (pe_cmpR op_eq (pe_callB call_len_seq (by rfl) T.m_len boot_len (pa_cons (pv 0) pa_nil)) pe_int (nomark _)) (pe_one (pe_callD D_is_term (hr.mono (by omega)) rfl pass0 (pa_cons (pe_ix ix_list (pv 0) pe_int (fun _ _ => rfl)) pa_nil))))))), ?_⟩
    refine s_ret (ev_lenAnd rfl hx ha pTerm_len fun hn => ?_) k
    obtain ⟨x, rfl⟩ := len1 ((dpAll_len ha).trans hn)
    obtain ⟨dx, rfl, h1⟩ := dp1 ha
    exact ev_call (ea_cons (ev_op (ev_var rfl) ev_c (rv_ixL hx at0)) ea_nil) (spv1 h1)
theorem ok_is_ask (T : Txt w K mg) : Def P w K mg base CX0 4 "is_ask" ["parts"] (spL K pAsk) := by
  have D_is_term := ok_is_term (P := P) (base := base) T
  have D_is_one_of := ok_is_one_of (P := P) (base := base) T
  refine mkDef T.F_is_ask T.g_is_ask sc_is_ask (fun _ _ _ _ _ _ us hl => match us, hl with | [_], _ => rfl) (fun vs H Q E h => ?_) (fun cdv A outer s H vs Q E hr h => ?_)
  · obtain ⟨a, xs, ds, rfl, _⟩ := h; rfl
  · obtain ⟨a, xs, ds, rfl, hx, ha, k⟩ := h
    have hl := dpAll_len ha
    refine ⟨_, (PSs.nox (pss_cons (ps_if (pt_cmpR op_ne (pe_callB call_len_seq (by rfl) T.m_len boot_len (pa_cons (pv 0) pa_nil)) pe_int (nomark _)) (pss_one (ps_ret pe_bl)) pss_nil)
      (pss_one (ps_ret (pe_and (pe_callD D_is_one_of (hr.mono (by omega)) rfl pass0 (pa_cons (pe_ix ix_list (pv 0) pe_int (fun _ _ => rfl)) (pa_cons (pe_gref rfl T.g_DIRECTIONS) pa_nil))) (pe_and (pe_callD D_is_term (hr.mono (by omega)) rfl pass0 (pa_cons (pe_ix ix_list (pv 0) pe_int (fun _ _ => rfl)) pa_nil)) (pe_one (pe_callD D_is_one_of (hr.mono (by omega)) rfl pass0 (pa_cons (pe_ix ix_list (pv 0) pe_int (fun _ _ => rfl)) (pa_cons (pe_gref rfl T.g_VARIABLES) pa_nil)))))))))), ?_⟩
    refine q_when (et_is (et_test (ev_op (ev_cb (ea_cons (ev_var rfl) ea_nil) (rc_lenL hx)) ev_c (rv_ne rfl))) (int_ne xs.length 3)) ?_ ?_
    · intro hb H1 e
      have h3 : ¬ ds.length = 3 := fun q => by rw [← hl] at q; rw [q] at hb; cases hb
      refine s_ret ev_c fun H2 e2 => ?_
      have := k H2 (e.trans e2)
      rw [pAsk_len h3] at this
      exact this
    · intro hb H1 e
      have h3 : xs.length = 3 := by
        by_cases q : xs.length = 3
        · exact q
        · rw [decide_eq_false q] at hb; cases hb
      obtain ⟨x, y, z, rfl⟩ := len3 h3
      obtain ⟨dx, dy, dz, rfl, h1, h2, h3⟩ := dp3 ha
      have hx := ex_l e hx
      exact s_ret (ev_andV (ev_call (ea_cons (ev_op (ev_var rfl) ev_c (rv_ixL hx at0)) (ea_cons ev_c ea_nil)) (spvOne (ns := dirs) (dp_mono e h1) (T.t_DIRECTIONS _))) fun _ =>
        ev_andV (ev_call (ea_cons (ev_op (ev_var rfl) ev_c (rv_ixL hx at1)) ea_nil) (spv1 (dp_mono e h2))) fun _ => ev_call (ea_cons (ev_op (ev_var rfl) ev_c (rv_ixL hx at2)) (ea_cons ev_c ea_nil)) (spvOne (ns := vars) (dp_mono e h3) (T.t_VARIABLES _))) fun H2 e2 => k H2 (e.trans e2)
end

end Nt

namespace Nt
open PySem PySem.Spec PyProof.Rows L2 Evl
/-! ### a call of a def that a slot holds -/
def tCallH (A : Addr → Sp → Prop) (i : Nat) (t : TA) : TE := fun σ H Q => ∃ f sp, σ[i]? = some (some (.ref f)) ∧ A f sp ∧ t σ H fun vs H1 => sp vs H1 Q E0
theorem pe_callH {X : Cx} {k i : Nat} {x : Str} {p pos : Pos} {e : Expr} {es : List Expr} {t : TA} {A : Addr → Sp → Prop} (hA : ∀ f sp, A f sp → Held X.prog X.w X.K X.mg X.base k f sp) (hr : Room k X.A) (hN : X.N[i]? = some x) (hv : Vis X.env.scope x) (ha : PA X (e :: es) t)
    (hdb : (x == ("__debug__" : Str)) = false := by decide) (hcd : (x == ("__classdict__" : Str)) = false := by decide)
    (he : starEach (e :: es) X.env = (false, eval e X.env) :: starEach es X.env := by rfl) (hpl : (backTo pos (starEach es X.env)).any (·.1) = false := by rfl) : PE X (.Call (.Name x p) (e :: es) [] pos) (tCallH A i t) := by
  refine ⟨fun pins s σ H Q I h => ?_⟩
  obtain ⟨f, sp, hs, hS, ht⟩ := h
  obtain ⟨fd, ps, F, hk, hb⟩ := (hA f sp hS).ex
  refine (pe_callL (i := i) (f := f) (sp := sp) (dvs := []) (E := fun _ _ _ => False) F hr hN hv hk hb .nil (fun _ _ _ _ _ _ _ z => z.elim) ha hdb hcd he hpl).run pins s σ H Q I ⟨hs, ?_⟩
  have e0 : (fun (vs : List V) (H1 : Hp) => sp (vs ++ []) H1 Q (fun _ _ _ => False)) = fun vs H1 => sp vs H1 Q (fun _ _ _ => False) := by
    funext vs H1
    rw [List.append_nil]
  show t σ H (fun vs H1 => sp (vs ++ []) H1 Q (fun _ _ _ => False))
  rw [e0]
  exact ht
theorem Def.held {P : Program} {w : World} {K : PySem.W.Frag} {mg : Str → Option Value} {base : Heap} {k : Nat} {x : Str} {ps : List Str} {sp : Sp} {f : Addr} (D : Def P w K mg base CX0 k x ps sp) (g : mg x = some (.ref f)) : Held P w K mg base k f sp := by
  obtain ⟨f', fd, h1, h2, h3, h4⟩ := D.ex
  have e : f = f' := by
    have := g.symm.trans h1
    injection this with this
    injection this
  subst e
  exact ⟨fd, ps, h4, h2, h3⟩
theorem ev_callH {A : Addr → Sp → Prop} {i : Nat} {t : TA} {σ : L2.St} {H : Hp} {f : Addr} {sp : Sp} {vs : List V} {z : V} (h0 : σ[i]? = some (some (.ref f))) (hA : A f sp) (ha : EvA t σ H vs) (hs : SpV sp vs H z) : Ev (tCallH A i t) σ H z := fun H1 e Q q =>
  ⟨f, sp, h0, hA, ha H1 e _ fun H2 e2 => hs H2 (e.trans e2) _ (fun H3 e3 => q H3 (e2.trans e3)) E0⟩
/-! ### sizes -/
inductive Sm : PyData → Prop
  | none : Sm .none
  | bool (b : Bool) : Sm (.bool b)
  | int (i : Int) : Sm (.int i)
  | str (s : Str) : Sm (.str s)
  | list {xs : List PyData} (h : xs.length ≤ 20000) (a : ∀ x, x ∈ xs → Sm x) : Sm (.list xs)
  | tuple {xs : List PyData} (h : xs.length ≤ 20000) (a : ∀ x, x ∈ xs → Sm x) : Sm (.tuple xs)
theorem Sm.tupI {xs : List PyData} (h : Sm (.tuple xs)) : xs.length ≤ 20000 ∧ ∀ x, x ∈ xs → Sm x := by
  cases h with
  | tuple h a => exact ⟨h, a⟩
/-! ### the counts -/
def sumO (l : List (Option Int)) : Option Int := if l.any Option.isNone then none else some (l.map (·.getD 0)).sum
def wordsT : List Str := ["set", "add", "wait", "ask", "answer"]
def wordsC : List Str := ["set", "add", "wait", "grow", "list"]
def words (kind : Str) : List Str := if kind = "teller" then wordsT else wordsC
def chk (z : Str) : List PyData → Bool := if z = "set" then pSet else if z = "add" then pAdd else if z = "wait" then pWait else if z = "ask" then pAsk else if z = "answer" then pAns else pTerm
def nBod (z : Str) : Nat := if z = "if" then 2 else 1
def isBlk (z : Str) : Bool := z == "if" || z == "while"
def cntBlock (cb : PyData → Option Int) (z : Str) (parts : List PyData) : Option Int :=
  if (parts.drop 1).length = nBod z ∧ isCond (parts.getD 0 .none) = true then (sumO ((parts.drop 1).map cb)).map (1 + ·) else none
def cntStmt (kind : Str) (cb : PyData → Option Int) : PyData → Option Int
  | .tuple (.str z :: parts) => if isBlk z then cntBlock cb z parts else if (words kind).contains z && chk z parts then some 1 else none
  | _ => none
def cntBody (kind : Str) : Nat → PyData → Option Int
  | 0, .tuple [] => some 0
  | f + 1, .tuple ss => sumO (ss.map (cntStmt kind (cntBody kind f)))
  | _, _ => none
def cV : Option Int → V
  | none => .non
  | some n => .int n
theorem cV_flat (os : List (Option Int)) : (os.map cV).all flatV = true := by
  rw [List.all_map]
  refine List.all_eq_true.mpr fun o _ => ?_
  cases o <;> rfl
theorem cV_none (os : List (Option Int)) : inV .non (os.map cV) = os.any Option.isNone := by
  unfold inV
  rw [List.any_map]
  congr 1
  funext o
  cases o <;> rfl
theorem cV_some {os : List (Option Int)} (h : os.any Option.isNone = false) : os.map cV = (os.map (·.getD 0)).map V.int := by
  induction os with
  | nil => rfl
  | cons o os ih =>
    rw [List.any_cons, Bool.or_eq_false_iff] at h
    cases o with
    | none => cases h.1
    | some n => rw [List.map_cons, List.map_cons, List.map_cons, ih h.2]; rfl
def okKind (kind : Str) : Prop := kind = "teller" ∨ kind = "collector"
def spStm (K : PySem.W.Frag) (f : Nat) : Sp := fun vs H Q _ => ∃ (kind : Str) (v : V) (d : PyData), okKind kind ∧ vs = [.str kind, v, .int (4 - (f : Int))] ∧ Dp K H v d ∧ Sm d ∧ ∀ H', Same H H' → Q (cV (cntStmt kind (cntBody kind f) d)) H'
def spBod (K : PySem.W.Frag) (f : Nat) : Sp := fun vs H Q _ => ∃ (kind : Str) (v : V) (d : PyData), okKind kind ∧ vs = [.str kind, v, .int (5 - (f : Int))] ∧ Dp K H v d ∧ Sm d ∧ ∀ H', Same H H' → Q (cV (cntBody kind f d)) H'
def spBlk (K : PySem.W.Frag) (f : Nat) : Sp := fun vs H Q _ => ∃ (kind z : Str) (a : Addr) (xs : List V) (ds : List PyData), okKind kind ∧ isBlk z = true ∧ vs = [.str kind, .str z, .ref a, .int (4 - (f : Int))] ∧ SqL K H a xs ∧ DpAll K H xs ds ∧ ds.length ≤ 20000 ∧ (∀ d, d ∈ ds → Sm d) ∧ ∀ H', Same H H' → Q (cV (cntBlock (cntBody kind f) z ds)) H'
theorem spvStm {K : PySem.W.Frag} {f : Nat} {kind : Str} {v : V} {d : PyData} {H : Hp} (hk : okKind kind) (h : Dp K H v d) (hs : Sm d) : SpV (spStm K f) [.str kind, v, .int (4 - (f : Int))] H (cV (cntStmt kind (cntBody kind f) d)) := fun H1 e Q q E => ⟨kind, v, d, hk, rfl, dp_mono e h, hs, fun H' e' => q H' e'⟩
theorem spvBod {K : PySem.W.Frag} {f : Nat} {kind : Str} {v : V} {d : PyData} {H : Hp} (hk : okKind kind) (h : Dp K H v d) (hs : Sm d) : SpV (spBod K f) [.str kind, v, .int (5 - (f : Int))] H (cV (cntBody kind f d)) := fun H1 e Q q E => ⟨kind, v, d, hk, rfl, dp_mono e h, hs, fun H' e' => q H' e'⟩
theorem spvBlk {K : PySem.W.Frag} {f : Nat} {kind z : Str} {a : Addr} {xs : List V} {ds : List PyData} {H : Hp} (hk : okKind kind) (hz : isBlk z = true) (hx : SqL K H a xs) (h : DpAll K H xs ds) (hl : ds.length ≤ 20000) (hs : ∀ d, d ∈ ds → Sm d) :
    SpV (spBlk K f) [.str kind, .str z, .ref a, .int (4 - (f : Int))] H (cV (cntBlock (cntBody kind f) z ds)) := fun H1 e Q q E => ⟨kind, z, a, xs, ds, hk, hz, rfl, ex_l e hx, dpAll_mono e h, hl, hs, fun H' e' => q H' e'⟩
def bodTab : List (Str × V) := [("if", .int 2), ("while", .int 1)]
theorem bod_at {z : Str} (h : isBlk z = true) : bodTab.lookup z = some (.int (nBod z : Nat)) := by
  unfold isBlk at h
  rcases Bool.or_eq_true_iff.mp h with q | q
  · rw [eq_of_beq q]; decide +kernel
  · rw [eq_of_beq q]; decide +kernel
theorem bod_is (z : Str) : (bodTab.lookup z).isSome = isBlk z := by
  unfold bodTab isBlk
  rw [List.lookup_cons, List.lookup_cons, List.lookup_nil]
  cases (z == "if") <;> cases (z == "while") <;> rfl
/-- None if None in counts else .. -/
theorem ev_counts {K : PySem.W.Frag} {σ : L2.St} {H : Hp} {i : Nat} {p : Addr} {os : List (Option Int)} {te : TE} {g : Int → Int} (h0 : σ[i]? = some (some (.ref p))) (hp : SqL K H p (os.map cV))
    (h : os.any Option.isNone = false → Ev te σ H (.int (g (os.map (·.getD 0)).sum))) : Ev (tIf (tTest (tOp (rIn K false) (tC .non) (tVar i))) (tC .non) te) σ H (cV ((sumO os).map g)) := by
  refine ev_if (b := os.any Option.isNone) (et_is (et_test (ev_op ev_c (ev_var h0) (rv_isL hp rfl (cV_flat os)))) (cV_none os)) (fun hb => ev_is ev_c ?_) (fun hb => ev_is (h hb) ?_)
  · unfold sumO; rw [if_pos hb]; rfl
  · unfold sumO; rw [if_neg (by rw [hb]; exact Bool.false_ne_true)]; rfl

end Nt

namespace Nt
open PySem PySem.Spec PyProof.Rows L2 Evl
theorem cut1 (xs : List V) : cutV xs (some 1) none = xs.drop 1 := by
  unfold cutV
  have h1 : HT.sIx xs.length 0 (some 1) = min 1 xs.length := HT.sIx_nat xs.length 0 1
  rw [h1, HT.sIx_none]
  cases xs with
  | nil => rfl
  | cons x xs =>
    have h2 : min 1 (x :: xs).length = 1 := by rw [List.length_cons]; omega
    rw [h2, List.take_of_length_le]
    rw [List.length_drop]; omega
section
variable {P : Program} {w : World} {K : PySem.W.Frag} {mg : Str → Option Value} {base : Heap}
theorem ok_count_block (T : Txt w K mg) (f k : Nat) (hk4 : 4 ≤ k) (D_count_body : Def P w K mg base CX0 k "count_body" ["kind", "thing", "depth"] (spBod K f)) : Def P w K mg base CX0 (k + 1) "count_block" ["kind", "word", "parts", "depth"] (spBlk K f) := by
  have D_is_condition := (ok_is_condition (P := P) (base := base) T)
  refine mkDef T.F_count_block T.g_count_block sc_count_block (fun _ _ _ _ _ _ us hl => match us, hl with | [_, _, _, _], _ => rfl) (fun vs H Q E h => ?_) (fun cdv A outer s H vs Q E hr h => ?_)
  · obtain ⟨_, _, _, _, _, _, _, rfl, _⟩ := h; rfl
  · obtain ⟨kind, z, a, xs, ds, hkd, hz, rfl, hx, ha, hl, hs, kk⟩ := h
    have hn := dpAll_len ha
    refine ⟨_, (PSs.nox (pss_cons (ps_set (i := 4) sc_count_block.nd rfl (Or.inl rfl) (pe_slice sl_list (pv 2) (po_some pe_int) po_none))
      (pss_cons (ps_if (PW.pt (pw_or (pt_cmpR op_ne (pe_callB call_len_seq (by rfl) T.m_len boot_len (pa_cons (pv 4) pa_nil)) (pe_ix (ix_tab T.d_BODIES) (pe_gref rfl T.g_BODIES) (pv 1) (fun _ _ => rfl)) (nomark _)) (pw_or1 (pt_not (pt_val (pe_callD D_is_condition (hr.mono (by omega)) rfl pass0 (pa_cons (pe_ix ix_list (pv 2) pe_int (fun _ _ => rfl)) pa_nil))))))) (pss_one (ps_ret pe_non)) pss_nil)
      (pss_cons (ps_setLc (i := 5) (own := [("body", 6)]) (by rfl) sc_count_block.nd rfl rfl (sw_true rfl rfl rfl (by decide +kernel)) (pi_list (pv 4)) (blkOk_by (own := [("body", 6)]) (N := N_count_block) (sc := defScope s_count_block) (by decide +kernel)) (fun _ _ _ _ _ => (pg_name (i := 6) sc_count_block.nd rfl (Or.inl rfl))) (fun _ _ _ _ _ => pts_nil) (fun _ _ _ _ _ => (pe_callD D_count_body (hr.mono (by omega)) rfl pass0 (pa_cons (pv 0) (pa_cons (pv 6) (pa_cons (pe_op op_add (pv 3) pe_int) pa_nil))))))
      (pss_one (ps_ret (pe_ifExp (pt_cmpR op_in_seq pe_non (pv 5) (by rfl)) pe_non (pe_op op_add pe_int (pe_callB (cr_sum rfl) (by rfl) T.m_sum boot_sum (pa_cons (pv 5) pa_nil)))))))))), ?_⟩
    refine q_asgL (el_sl (ev_var rfl) (eo_some ev_c) eo_none hx) fun p H1 hp e hp1 => ?_
    rw [cut1] at hp1
    have hb := dpAll_drop 1 (dpAll_mono e ha)
    have hpl : (xs.drop 1).length = (ds.drop 1).length := dpAll_len hb
    have hcmp : ∀ H', Ex H1 H' → Ev (tOp rNe (tCB (rLenS K) (tCons (tVar 4) tNil)) (tOp (rIxTab (He.ga K "BODIES") bodTab) (tC (.ref (He.ga K "BODIES"))) (tVar 1))) [some (.str kind), some (.str z), some (.ref a), some (.int (4 - (f : Int))), some (.ref p), none, none] H' (.bl (!decide ((ds.drop 1).length = nBod z))) := fun H' e' =>
      ev_is (ev_op (ev_cb (ea_cons (ev_var rfl) ea_nil) (rc_lenL (sq_of (e' _ _ hp1)))) (ev_op ev_c (ev_var rfl) (rv_ixTab (bod_at hz))) (rv_ne rfl)) (by rw [int_ne, hpl])
    by_cases hlen : (ds.drop 1).length = nBod z
    · have hnb : 1 ≤ nBod z := by unfold nBod; split <;> omega
      obtain ⟨x0, xr, rfl⟩ : ∃ x0 xr, xs = x0 :: xr := by
        cases xs with
        | nil => rw [List.length_drop, ← hn] at hlen; simp at hlen; omega
        | cons x0 xr => exact ⟨x0, xr, rfl⟩
      obtain ⟨d0, hd0, hx0⟩ := dpAll_get (i := 0) (v := x0) ha rfl
      have hg : ds.getD 0 .none = d0 := by rw [List.getD_eq_getElem?_getD, hd0]; rfl
      refine q_when (b := !isCond d0) (et_is (et_or (b := !isCond d0) (et_test (hcmp H1 (Ex.refl _))) fun _ => et_not (et_B (ev_call (ea_cons (ev_op (ev_var rfl) ev_c (rv_ixL (ex_l e hx) at0)) ea_nil) (spv1 (dp_mono e hx0))))) ?_) ?_ ?_
      · rw [decide_eq_true hlen]; rfl
      · intro hb2 H2 e2
        refine s_ret ev_c fun H3 e3 => ?_
        have := kk H3 (e.trans (e2.trans e3))
        unfold cntBlock at this
        rw [if_neg (by rw [hg]; intro q; rw [q.2] at hb2; cases hb2)] at this
        exact this
      · intro hb2 H2 e2
        have hc : isCond d0 = true := by
          cases q : isCond d0 with
          | true => rfl
          | false => rw [q] at hb2; cases hb2
        have hsq : SqL K H2 p (List.drop 1 (x0 :: xr)) := sq_of (e2 _ _ hp1)
        refine q_asgL (el_mapL (ys := ((ds.drop 1).map (cntBody kind f)).map cV) (ev_var rfl) hsq (by rw [List.length_map, List.length_map, hpl]) (by rw [hpl, List.length_drop]; omega) (fun x => rfl) fun i x y H3 e3 hi hy => ?_) fun q H3 hq e3 hq3 => ?_
        · obtain ⟨d, hd, hdx⟩ := dpAll_get (dpAll_mono (e2.trans e3) hb) hi
          rw [List.getElem?_map, List.getElem?_map, hd] at hy
          cases hy
          have ed : (4 - (f : Int)) + 1 = 5 - (f : Int) := by omega
          refine ev_call (ea_cons (ev_var rfl) (ea_cons (ev_var rfl) (ea_cons (ev_is (ev_op (ev_var rfl) ev_c rv_I0) (congrArg V.int ed)) ea_nil))) (spvBod hkd hdx (hs d ?_))
          exact List.mem_of_mem_drop (List.mem_of_getElem? hd)
        · refine s_ret (ev_counts (g := fun s => 1 + s) rfl (sq_of hq3) fun hno => ?_) fun H4 e4 => ?_
          · rw [cV_some hno] at hq3
            exact ev_op ev_c (ev_cb (ea_cons (ev_var rfl) ea_nil) (rc_sum (sq_of hq3))) rv_I0
          · have := kk H4 (e.trans (e2.trans (e3.trans e4)))
            unfold cntBlock at this
            rw [if_pos ⟨hlen, by rw [hg]; exact hc⟩] at this
            exact this
    · refine q_when (b := true) (et_or (b := true) (et_is (et_test (hcmp H1 (Ex.refl _))) (b := true) (by rw [decide_eq_false hlen]; rfl)) fun q => by cases q) (fun _ H2 e2 => ?_) fun q => by cases q
      refine s_ret ev_c fun H3 e3 => ?_
      have := kk H3 (e.trans (e2.trans e3))
      unfold cntBlock at this
      rw [if_neg fun q => hlen q.1] at this
      exact this
end

end Nt

namespace Nt
open PySem PySem.Spec PyProof.Rows L2 Evl
section
variable {P : Program} {w : World} {K : PySem.W.Frag} {mg : Str → Option Value} {base : Heap}
def chkTab (K : PySem.W.Frag) : List (Str × V) := [("set", .ref (He.ga K "is_set")), ("add", .ref (He.ga K "is_add")), ("wait", .ref (He.ga K "is_wait")), ("ask", .ref (He.ga K "is_ask")), ("answer", .ref (He.ga K "is_answer")), ("grow", .ref (He.ga K "is_one_term")), ("list", .ref (He.ga K "is_one_term"))]
def ChkA (K : PySem.W.Frag) (f : Addr) (sp : Sp) : Prop := (f = He.ga K "is_set" ∧ sp = spL K pSet) ∨ (f = He.ga K "is_add" ∧ sp = spL K pAdd) ∨ (f = He.ga K "is_wait" ∧ sp = spL K pWait) ∨ (f = He.ga K "is_ask" ∧ sp = spL K pAsk) ∨ (f = He.ga K "is_answer" ∧ sp = spL K pAns) ∨ (f = He.ga K "is_one_term" ∧ sp = spL K pTerm)
theorem hA_chk (T : Txt w K mg) (f : Addr) (sp : Sp) (h : ChkA K f sp) : Held P w K mg base 4 f sp := by
  rcases h with ⟨rfl, rfl⟩ | ⟨rfl, rfl⟩ | ⟨rfl, rfl⟩ | ⟨rfl, rfl⟩ | ⟨rfl, rfl⟩ | ⟨rfl, rfl⟩
  · exact ((ok_is_set T).mono (by decide)).held T.g_is_set
  · exact (ok_is_add T).held T.g_is_add
  · exact ((ok_is_wait T).mono (by decide)).held T.g_is_wait
  · exact (ok_is_ask T).held T.g_is_ask
  · exact ((ok_is_answer T).mono (by decide)).held T.g_is_answer
  · exact (ok_is_one_term T).held T.g_is_one_term
theorem chk_at (K : PySem.W.Frag) {kind z : Str} (h : (words kind).contains z = true) : ∃ f, (chkTab K).lookup z = some (.ref f) ∧ ChkA K f (spL K (chk z)) := by
  have hm : z ∈ words kind := List.contains_iff_mem.mp h
  have hz : z = "set" ∨ z = "add" ∨ z = "wait" ∨ z = "ask" ∨ z = "answer" ∨ z = "grow" ∨ z = "list" := by
    unfold words wordsT wordsC at hm
    split at hm
    · simp only [List.mem_cons, List.not_mem_nil, or_false] at hm
      rcases hm with q | q | q | q | q <;> simp [q]
    · simp only [List.mem_cons, List.not_mem_nil, or_false] at hm
      rcases hm with q | q | q | q | q <;> simp [q]
  rcases hz with q | q | q | q | q | q | q
  · subst q; exact ⟨_, rfl, .inl ⟨rfl, rfl⟩⟩
  · subst q; exact ⟨_, rfl, .inr (.inl ⟨rfl, rfl⟩)⟩
  · subst q; exact ⟨_, rfl, .inr (.inr (.inl ⟨rfl, rfl⟩))⟩
  · subst q; exact ⟨_, rfl, .inr (.inr (.inr (.inl ⟨rfl, rfl⟩)))⟩
  · subst q; exact ⟨_, rfl, .inr (.inr (.inr (.inr (.inl ⟨rfl, rfl⟩))))⟩
  · subst q; exact ⟨_, rfl, .inr (.inr (.inr (.inr (.inr ⟨rfl, rfl⟩))))⟩
  · subst q; exact ⟨_, rfl, .inr (.inr (.inr (.inr (.inr ⟨rfl, rfl⟩))))⟩
theorem spvL {g : List PyData → Bool} {a : Addr} {xs : List V} {ds : List PyData} {H : Hp} (hx : SqL K H a xs) (h : DpAll K H xs ds) : SpV (spL K g) [.ref a] H (.bl (g ds)) := fun H1 e Q q E => ⟨a, xs, ds, rfl, ex_l e hx, dpAll_mono e h, fun H' e' => q H' e'⟩
/-- WORDS[kind] -/
theorem words_at (T : Txt w K mg) {kind : Str} (h : okKind kind) (H : Hp) : ∃ a, List.lookup kind [("teller", V.ref (tabAt "WORDS" "teller" K)), ("collector", V.ref (tabAt "WORDS" "collector" K))] = some (.ref a) ∧ SqT K H a ((words kind).map V.str) := by
  rcases h with rfl | rfl
  · exact ⟨_, rfl, T.t_WORDS_teller H⟩
  · exact ⟨_, rfl, T.t_WORDS_collector H⟩
theorem cntStmt_not {kind : Str} {cb : PyData → Option Int} {d : PyData} (h : ∀ z ps, d ≠ .tuple (.str z :: ps)) : cntStmt kind cb d = none := by
  unfold cntStmt
  split
  · exact absurd rfl (h _ _)
  · rfl
theorem cntStmt_blk {kind z : Str} {cb : PyData → Option Int} {ps : List PyData} (hz : isBlk z = true) : cntStmt kind cb (.tuple (.str z :: ps)) = cntBlock cb z ps := if_pos hz
theorem cntStmt_one {kind z : Str} {cb : PyData → Option Int} {ps : List PyData} (hz : isBlk z = false) : cntStmt kind cb (.tuple (.str z :: ps)) = if ((words kind).contains z && chk z ps) = true then some 1 else none := if_neg (by rw [hz]; exact Bool.false_ne_true)
theorem ok_count_statement (T : Txt w K mg) (f k : Nat) (hk4 : 4 ≤ k) (D_count_block : Def P w K mg base CX0 k "count_block" ["kind", "word", "parts", "depth"] (spBlk K f)) : Def P w K mg base CX0 (k + 1) "count_statement" ["kind", "thing", "depth"] (spStm K f) := by
  have hA_check := hA_chk (P := P) (base := base) T
  refine mkDef T.F_count_statement T.g_count_statement sc_count_statement (fun _ _ _ _ _ _ us hl => match us, hl with | [_, _, _], _ => rfl) (fun vs H Q E h => ?_) (fun cdv A outer s H vs Q E hr h => ?_)
  · obtain ⟨_, _, _, _, rfl, _⟩ := h; rfl
  · obtain ⟨kind, v, d, hkd, rfl, hd, hs, kk⟩ := h
    refine ⟨_, (PSs.nox (pss_cons (ps_if (PW.pt (pw_or (pt_not (pt_val (pe_callB call_isi (by rfl) T.m_isinstance boot_isinstance (pa_cons (pv 1) (pa_cons (pe_bltn (v := .ty "tuple") rfl T.m_tuple boot_tuple rfl) pa_nil))))) (pw_or (pt_cmpR op_eq (pe_callB call_len_seq (by rfl) T.m_len boot_len (pa_cons (pv 1) pa_nil)) pe_int (nomark _)) (pw_or1 (pt_not (pt_val (pe_callB call_isi (by rfl) T.m_isinstance boot_isinstance (pa_cons (pe_ix ix_tup (pv 1) pe_int (fun _ _ => rfl)) (pa_cons (pe_bltn (v := .ty "str") rfl T.m_str boot_str rfl) pa_nil))))))))) (pss_one (ps_ret pe_non)) pss_nil)
      (pss_cons (ps_asg (pv 1) (pg_star (n := 2) (i := 1) rfl (pgs_cons (pg_name (i := 3) sc_count_statement.nd rfl (Or.inl rfl)) (pgs_star (pg_name (i := 4) sc_count_statement.nd rfl (Or.inl rfl))))))
      (pss_cons (ps_if (pt_cmpR (op_in_tab T.d_BODIES) (pv 3) (pe_gref rfl T.g_BODIES) (by rfl)) (pss_one (ps_ret (pe_callD D_count_block (hr.mono (by omega)) rfl pass0 (pa_cons (pv 0) (pa_cons (pv 3) (pa_cons (pv 4) (pa_cons (pv 2) pa_nil))))))) pss_nil)
      (pss_cons (ps_if (pt_cmpR op_notIn_seq (pv 3) (pe_ix (ix_tab T.d_WORDS) (pe_gref rfl T.g_WORDS) (pv 0) (fun _ _ => rfl)) (by rfl)) (pss_one (ps_ret pe_non)) pss_nil)
      (pss_cons (ps_set (i := 5) sc_count_statement.nd rfl (Or.inl rfl) (pe_ix (ix_tab T.d_CHECKS) (pe_gref rfl T.g_CHECKS) (pv 3) (fun _ _ => rfl)))
      (pss_one (ps_ret (pe_ifExp (pt_val (pe_callH (i := 5) hA_check (hr.mono (by omega)) rfl (Or.inl rfl) (pa_cons (pv 4) pa_nil))) pe_int pe_non))))))))), ?_⟩
    cases ht : isTup d with
    | false =>
      refine q_when (b := true) (et_or (b := true) (et_not (et_B (ev_cb (ea_cons (ev_var rfl) (ea_cons ev_c ea_nil)) (isi_d hd ((kit_tup d).trans (congrArg some ht)))))) fun q => by cases q) (fun _ H1 e => s_ret ev_c fun H2 e2 => ?_) fun q => by cases q
      have := kk H2 (e.trans e2)
      rw [cntStmt_not (fun z ps q => by rw [q] at ht; cases ht)] at this
      exact this
    | true =>
      obtain ⟨a, xs, ds, rfl, rfl, hx, ha⟩ := dp_tupI hd ht
      obtain ⟨hsz, hsm⟩ := hs.tupI
      cases ha with
      | nil =>
        refine q_when (b := true) (et_or (b := true) (et_not (et_B (ev_cb (ea_cons (ev_var rfl) (ea_cons ev_c ea_nil)) (isi_d hd (kit_tup _))))) fun _ => et_or (a := true) (b := true) (et_test (ev_op (ev_cb (ea_cons (ev_var rfl) ea_nil) (rc_lenT hx)) ev_c (rv_eq rfl))) fun q => by cases q) (fun _ H1 e => s_ret ev_c fun H2 e2 => ?_) fun q => by cases q
        exact kk H2 (e.trans e2)
      | @cons x0 xr d0 dr h0 hr0 =>
        have hl0 : Ev (tOp rEq (tCB (rLenS K) (tCons (tVar 1) tNil)) (tC (.int 0))) [some (.str kind), some (.ref a), some (.int (4 - (f : Int))), none, none, none] H (.bl false) :=
          ev_is (ev_op (ev_cb (ea_cons (ev_var rfl) ea_nil) (rc_lenT hx)) ev_c (rv_eq rfl)) (congrArg V.bl ((int_eq (xr.length + 1) 0).trans rfl))
        refine q_when (b := !isStr d0) (et_is (et_or (b := !isStr d0) (et_not (et_B (ev_cb (ea_cons (ev_var rfl) (ea_cons ev_c ea_nil)) (isi_d hd (kit_tup _))))) fun _ => et_or (a := false) (b := !isStr d0) (et_test hl0) fun _ => et_not (et_B (ev_cb (ea_cons (ev_op (ev_var rfl) ev_c (rv_ixT hx at0)) (ea_cons ev_c ea_nil)) (isi_d h0 (kit_str d0))))) rfl) ?_ ?_
        · intro hb H1 e
          refine s_ret ev_c fun H2 e2 => ?_
          have := kk H2 (e.trans e2)
          rw [cntStmt_not (fun z ps q => by
            injection q with q
            injection q with q1 q2
            rw [q1] at hb; cases hb)] at this
          exact this
        · intro hb H1 e
          have hst : isStr d0 = true := by
            cases q : isStr d0 with
            | true => rfl
            | false => rw [q] at hb; cases hb
          obtain ⟨z, rfl, rfl⟩ := dp_strI h0 hst
          refine ⟨_, rfl, a, _, rfl, ex_t e hx, by show 2 ≤ (xr.length + 1) + 1; omega, by decide, fun p hp => ?_⟩
          have e1 : List.take (xr.length + 1 + 1 - 2) (List.drop 1 (V.str z :: xr)) = xr := by
            rw [List.drop_succ_cons, List.drop_zero, List.take_of_length_le (by omega)]
          have e2 : List.drop (xr.length + 1 + 1 - 2) (List.drop 1 (V.str z :: xr)) = [] := by
            rw [List.drop_succ_cons, List.drop_zero, List.drop_of_length_le (by omega)]
          show gCons (gName 3) (gCons (gName 4) gNil) ([V.str z] ++ [V.ref p] ++ List.drop (xr.length + 1 + 1 - 2) (List.drop 1 (V.str z :: xr))) _ (upd H1 p (.lst (List.take (xr.length + 1 + 1 - 2) (List.drop 1 (V.str z :: xr))))) _
          rw [e1, e2]
          refine ⟨_, _, rfl, _, _, rfl, rfl, ?_⟩
          have e3 : Ex H1 (upd H1 p (.lst xr)) := Ex.new hp
          have hq : SqL K (upd H1 p (.lst xr)) p xr := sq_of upd_same
          have hdr : DpAll K (upd H1 p (.lst xr)) xr dr := dpAll_mono (e.trans e3) hr0
          refine q_when (et_is (et_test (ev_op (ev_var rfl) ev_c rv_inTab)) (bod_is z)) ?_ ?_
          · intro hz H2 e4
            refine s_ret (ev_call (ea_cons (ev_var rfl) (ea_cons (ev_var rfl) (ea_cons (ev_var rfl) (ea_cons (ev_var rfl) ea_nil)))) (spvBlk hkd hz (ex_l e4 hq) (dpAll_mono e4 hdr) (by have := hsz; rw [List.length_cons] at this; omega) fun d hd => hsm d (List.mem_cons_of_mem _ hd))) fun H3 e5 => ?_
            have := kk H3 (e.trans (e3.trans (e4.trans e5)))
            rw [cntStmt_blk hz] at this
            exact this
          · intro hz H2 e4
            obtain ⟨aw, hw1, hw2⟩ := words_at T hkd H2
            refine q_when (b := !(words kind).contains z) (et_is (et_test (ev_op (ev_var rfl) (ev_op ev_c (ev_var rfl) (rv_ixTab hw1)) (rv_niT hw2 rfl (flat_strs _)))) (by rw [in_strs])) ?_ ?_
            · intro hc H3 e5
              refine s_ret ev_c fun H4 e6 => ?_
              have := kk H4 (e.trans (e3.trans (e4.trans (e5.trans e6))))
              have hc' : (words kind).contains z = false := by
                cases q : (words kind).contains z with
                | false => rfl
                | true => rw [q] at hc; cases hc
              rw [cntStmt_one hz, hc'] at this
              exact this
            · intro hc H3 e5
              have hc' : (words kind).contains z = true := by
                cases q : (words kind).contains z with
                | true => rfl
                | false => rw [q] at hc; cases hc
              obtain ⟨fc, hf1, hf2⟩ := chk_at K hc'
              refine q_asg (ev_op ev_c (ev_var rfl) (rv_ixTab hf1)) fun H4 e6 => ?_
              have e7 := e4.trans (e5.trans e6)
              refine s_ret (ev_if (v := cV (if chk z dr = true then some 1 else none)) (et_B (ev_callH rfl hf2 (ea_cons (ev_var rfl) ea_nil) (spvL (ex_l e7 hq) (dpAll_mono e7 hdr)))) (fun hb => ev_is ev_c (by rw [if_pos hb]; rfl)) (fun hb => ev_is ev_c (by rw [if_neg (by rw [hb]; exact Bool.false_ne_true)]; rfl))) fun H5 e8 => ?_
              have := kk H5 (e.trans (e3.trans (e7.trans e8)))
              rw [cntStmt_one hz, hc', Bool.true_and] at this
              exact this
end

end Nt

namespace Nt
open PySem PySem.Spec PyProof.Rows L2 Evl
section
variable {P : Program} {w : World} {K : PySem.W.Frag} {mg : Str → Option Value} {base : Heap}
theorem cntBody_not {kind : Str} {f : Nat} {d : PyData} (h : isTup d = false) : cntBody kind f d = none := by
  cases d with
  | tuple xs => cases h
  | _ => cases f <;> rfl
/-- the guard: not a tuple, or too deep -/
theorem ok_count_body0 (T : Txt w K mg) : Def P w K mg base CX0 1 "count_body" ["kind", "thing", "depth"] (spBod K 0) := by
  have D_count_statement : Def P w K mg base CX0 0 "count_statement" ["kind", "thing", "depth"] (fun _ _ _ _ => False) := Def.idle 0 T.F_count_statement T.g_count_statement (fun _ _ _ _ _ _ us hl => match us, hl with | [_, _, _], _ => rfl)
  refine mkDef T.F_count_body T.g_count_body sc_count_body (fun _ _ _ _ _ _ us hl => match us, hl with | [_, _, _], _ => rfl) (fun vs H Q E h => ?_) (fun cdv A outer s H vs Q E hr h => ?_)
  · obtain ⟨_, _, _, _, rfl, _⟩ := h; rfl
  · obtain ⟨kind, v, d, hkd, rfl, hd, hs, kk⟩ := h
    refine ⟨_, (PSs.nox (pss_cons (ps_if (PW.pt (pw_or (pt_not (pt_val (pe_callB call_isi (by rfl) T.m_isinstance boot_isinstance (pa_cons (pv 1) (pa_cons (pe_bltn (v := .ty "tuple") rfl T.m_tuple boot_tuple rfl) pa_nil))))) (pw_or1 (PW.pt (pw_and (pt_cmpR op_gt (pe_callB call_len_seq (by rfl) T.m_len boot_len (pa_cons (pv 1) pa_nil)) pe_int (nomark _)) (pw_and1 (pt_cmpR op_gt (pv 2) (pe_gint rfl T.c_MOST_DEPTH) (nomark _)))))))) (pss_one (ps_ret pe_non)) pss_nil)
      (pss_cons (ps_setLc (i := 3) (own := [("statement", 4)]) (by rfl) sc_count_body.nd rfl rfl (sw_true rfl rfl rfl (by decide +kernel)) (pi_tup (pv 1)) (blkOk_by (own := [("statement", 4)]) (N := N_count_body) (sc := defScope s_count_body) (by decide +kernel)) (fun _ _ _ _ _ => (pg_name (i := 4) sc_count_body.nd rfl (Or.inl rfl))) (fun _ _ _ _ _ => pts_nil) (fun _ _ _ _ _ => (pe_callD D_count_statement (hr.mono (by omega)) rfl pass0 (pa_cons (pv 0) (pa_cons (pv 4) (pa_cons (pv 2) pa_nil))))))
      (pss_one (ps_ret (pe_ifExp (pt_cmpR op_in_seq pe_non (pv 3) (by rfl)) pe_non (pe_callB (cr_sum rfl) (by rfl) T.m_sum boot_sum (pa_cons (pv 3) pa_nil)))))))), ?_⟩
    cases ht : isTup d with
    | false =>
      refine q_when (b := true) (et_or (b := true) (et_not (et_B (ev_cb (ea_cons (ev_var rfl) (ea_cons ev_c ea_nil)) (isi_d hd ((kit_tup d).trans (congrArg some ht)))))) fun q => by cases q) (fun _ H1 e => s_ret ev_c fun H2 e2 => ?_) fun q => by cases q
      have := kk H2 (e.trans e2)
      rw [cntBody_not ht] at this
      exact this
    | true =>
      obtain ⟨a, xs, ds, rfl, rfl, hx, ha⟩ := dp_tupI hd ht
      cases ha with
      | nil =>
        refine q_when (b := false) (et_or (b := false) (et_not (et_B (ev_cb (ea_cons (ev_var rfl) (ea_cons ev_c ea_nil)) (isi_d hd (kit_tup _))))) fun _ => et_and (a := false) (b := false) (et_test (ev_op (ev_cb (ea_cons (ev_var rfl) ea_nil) (rc_lenT hx)) ev_c rv_gt)) fun q => by cases q) (fun q => by cases q) fun _ H1 e => ?_
        refine q_asgL (el_mapT (ys := (([] : List (Option Int)).map cV)) (ev_var rfl) (ex_t e hx) rfl (by simp) (fun x => rfl) fun i x y H3 e3 hi hy => by cases hi) fun q H3 hq e3 hq3 => ?_
        refine s_ret (ev_counts (os := []) (g := fun s => s) rfl (sq_of hq3) fun hno => ?_) fun H4 e4 => kk H4 (e.trans (e3.trans e4))
        exact ev_cb (ea_cons (ev_var rfl) ea_nil) (rc_sum (ns := []) (sq_of hq3))
      | @cons x0 xr d0 dr h0 hr0 =>
        refine q_when (b := true) (et_or (b := true) (et_not (et_B (ev_cb (ea_cons (ev_var rfl) (ea_cons ev_c ea_nil)) (isi_d hd (kit_tup _))))) fun _ => et_and (a := true) (b := true) (et_is (et_test (ev_op (ev_cb (ea_cons (ev_var rfl) ea_nil) (rc_lenT hx)) ev_c rv_gt)) (decide_eq_true (by rw [List.length_cons]; omega))) fun _ => et_test (ev_op (ev_var rfl) ev_c rv_gt)) (fun _ H1 e => s_ret ev_c fun H2 e2 => kk H2 (e.trans e2)) fun q => by cases q
theorem ok_count_bodyS (T : Txt w K mg) (f k : Nat) (D_count_statement : Def P w K mg base CX0 k "count_statement" ["kind", "thing", "depth"] (spStm K f)) : Def P w K mg base CX0 (k + 1) "count_body" ["kind", "thing", "depth"] (spBod K (f + 1)) := by
  refine mkDef T.F_count_body T.g_count_body sc_count_body (fun _ _ _ _ _ _ us hl => match us, hl with | [_, _, _], _ => rfl) (fun vs H Q E h => ?_) (fun cdv A outer s H vs Q E hr h => ?_)
  · obtain ⟨_, _, _, _, rfl, _⟩ := h; rfl
  · obtain ⟨kind, v, d, hkd, rfl, hd, hs, kk⟩ := h
    have e5 : (5 - ((f + 1 : Nat) : Int)) = 4 - (f : Int) := by omega
    rw [e5]
    refine ⟨_, (PSs.nox (pss_cons (ps_if (PW.pt (pw_or (pt_not (pt_val (pe_callB call_isi (by rfl) T.m_isinstance boot_isinstance (pa_cons (pv 1) (pa_cons (pe_bltn (v := .ty "tuple") rfl T.m_tuple boot_tuple rfl) pa_nil))))) (pw_or1 (PW.pt (pw_and (pt_cmpR op_gt (pe_callB call_len_seq (by rfl) T.m_len boot_len (pa_cons (pv 1) pa_nil)) pe_int (nomark _)) (pw_and1 (pt_cmpR op_gt (pv 2) (pe_gint rfl T.c_MOST_DEPTH) (nomark _)))))))) (pss_one (ps_ret pe_non)) pss_nil)
      (pss_cons (ps_setLc (i := 3) (own := [("statement", 4)]) (by rfl) sc_count_body.nd rfl rfl (sw_true rfl rfl rfl (by decide +kernel)) (pi_tup (pv 1)) (blkOk_by (own := [("statement", 4)]) (N := N_count_body) (sc := defScope s_count_body) (by decide +kernel)) (fun _ _ _ _ _ => (pg_name (i := 4) sc_count_body.nd rfl (Or.inl rfl))) (fun _ _ _ _ _ => pts_nil) (fun _ _ _ _ _ => (pe_callD D_count_statement (hr.mono (by omega)) rfl pass0 (pa_cons (pv 0) (pa_cons (pv 4) (pa_cons (pv 2) pa_nil))))))
      (pss_one (ps_ret (pe_ifExp (pt_cmpR op_in_seq pe_non (pv 3) (by rfl)) pe_non (pe_callB (cr_sum rfl) (by rfl) T.m_sum boot_sum (pa_cons (pv 3) pa_nil)))))))), ?_⟩
    cases ht : isTup d with
    | false =>
      refine q_when (b := true) (et_or (b := true) (et_not (et_B (ev_cb (ea_cons (ev_var rfl) (ea_cons ev_c ea_nil)) (isi_d hd ((kit_tup d).trans (congrArg some ht)))))) fun q => by cases q) (fun _ H1 e => s_ret ev_c fun H2 e2 => ?_) fun q => by cases q
      have := kk H2 (e.trans e2)
      rw [cntBody_not ht] at this
      exact this
    | true =>
      obtain ⟨a, xs, ds, rfl, rfl, hx, ha⟩ := dp_tupI hd ht
      obtain ⟨hsz, hsm⟩ := hs.tupI
      have hn := dpAll_len ha
      refine q_when (b := false) (et_is (et_or (b := false) (et_not (et_B (ev_cb (ea_cons (ev_var rfl) (ea_cons ev_c ea_nil)) (isi_d hd (kit_tup _))))) fun _ => et_is (et_and (b := false) (et_test (ev_op (ev_cb (ea_cons (ev_var rfl) ea_nil) (rc_lenT hx)) ev_c rv_gt)) fun _ => et_is (et_test (ev_op (ev_var rfl) ev_c rv_gt)) (decide_eq_false (by omega))) (Bool.and_false _)) rfl) (fun q => by cases q) fun _ H1 e => ?_
      refine q_asgL (el_mapT (ys := ((ds.map (cntStmt kind (cntBody kind f))).map cV)) (ev_var rfl) (ex_t e hx) (by rw [List.length_map, List.length_map, hn]) (by omega) (fun x => rfl) fun i x y H3 e3 hi hy => ?_) fun q H3 hq e3 hq3 => ?_
      · obtain ⟨d, hd, hdx⟩ := dpAll_get (dpAll_mono (e.trans e3) ha) hi
        rw [List.getElem?_map, List.getElem?_map, hd] at hy
        cases hy
        exact ev_call (ea_cons (ev_var rfl) (ea_cons (ev_var rfl) (ea_cons (ev_var rfl) ea_nil))) (spvStm hkd hdx (hsm d (List.mem_of_getElem? hd)))
      · refine s_ret (ev_counts (g := fun s => s) rfl (sq_of hq3) fun hno => ?_) fun H4 e4 => ?_
        · rw [cV_some hno] at hq3
          exact ev_cb (ea_cons (ev_var rfl) ea_nil) (rc_sum (sq_of hq3))
        · have := kk H4 (e.trans (e3.trans e4))
          rw [show (sumO (ds.map (cntStmt kind (cntBody kind f)))).map (fun s => s) = sumO (ds.map (cntStmt kind (cntBody kind f))) from Option.map_id']
          exact this
theorem ok_count_body (T : Txt w K mg) : ∀ f : Nat, Def P w K mg base CX0 (4 + 3 * f) "count_body" ["kind", "thing", "depth"] (spBod K f)
  | 0 => (ok_count_body0 T).mono (by decide)
  | f + 1 => (ok_count_bodyS T f (4 + 3 * f + 1 + 1) (ok_count_statement T f (4 + 3 * f + 1) (by omega) (ok_count_block T f (4 + 3 * f) (by omega) (ok_count_body T f)))).mono (by omega)
/-! ### is_program -/
def isProg : PyData → Bool
  | .tuple [.str kind, body] => (kind == "teller" || kind == "collector") && (match cntBody kind 4 body with
    | some n => decide (n ≤ 24)
    | none => false)
  | _ => false
def spProg (K : PySem.W.Frag) : Sp := fun vs H Q _ => ∃ v d, vs = [v] ∧ Dp K H v d ∧ Sm d ∧ ∀ H', Same H H' → Q (.bl (isProg d)) H'
theorem spvProg {v : V} {d : PyData} {H : Hp} (h : Dp K H v d) (hs : Sm d) : SpV (spProg K) [v] H (.bl (isProg d)) := fun H1 e Q q E => ⟨v, d, rfl, dp_mono e h, hs, fun H' e' => q H' e'⟩
theorem isProg_not {d : PyData} (h : isTup d = false) : isProg d = false := by
  cases d <;> first | rfl | cases h
theorem isProg_len {ds : List PyData} (h : ¬ ds.length = 2) : isProg (.tuple ds) = false := by
  match ds, h with
  | [], _ => rfl
  | [x], _ => cases x <;> rfl
  | [_, _], h => exact absurd rfl h
  | x :: _ :: _ :: _, _ => cases x <;> rfl
theorem isProg_str {d0 d1 : PyData} (h : isStr d0 = false) : isProg (.tuple [d0, d1]) = false := by
  cases d0 <;> first | rfl | cases h
theorem kind_is (K : PySem.W.Frag) (z : Str) : (List.lookup z [(("teller" : Str), V.ref (tabAt "WORDS" "teller" K)), (("collector" : Str), V.ref (tabAt "WORDS" "collector" K))]).isSome = (z == "teller" || z == "collector") := by
  rw [List.lookup_cons, List.lookup_cons, List.lookup_nil]
  cases (z == "teller") <;> cases (z == "collector") <;> rfl
theorem ok_is_program (T : Txt w K mg) : Def P w K mg base CX0 17 "is_program" ["thing"] (spProg K) := by
  have D_count_body := ok_count_body (P := P) (base := base) T 4
  refine mkDef T.F_is_program T.g_is_program sc_is_program (fun _ _ _ _ _ _ us hl => match us, hl with | [_], _ => rfl) (fun vs H Q E h => ?_) (fun cdv A outer s H vs Q E hr h => ?_)
  · obtain ⟨_, _, rfl, _⟩ := h; rfl
  · obtain ⟨v, d, rfl, hd, hs, kk⟩ := h
    refine ⟨_, (PSs.nox (pss_cons (ps_if (PW.pt (pw_or (pt_not (pt_val (pe_callB call_isi (by rfl) T.m_isinstance boot_isinstance (pa_cons (pv 0) (pa_cons (pe_bltn (v := .ty "tuple") rfl T.m_tuple boot_tuple rfl) pa_nil))))) (pw_or (pt_cmpR op_ne (pe_callB call_len_seq (by rfl) T.m_len boot_len (pa_cons (pv 0) pa_nil)) pe_int (nomark _)) (pw_or (pt_not (pt_val (pe_callB call_isi (by rfl) T.m_isinstance boot_isinstance (pa_cons (pe_ix ix_tup (pv 0) pe_int (fun _ _ => rfl)) (pa_cons (pe_bltn (v := .ty "str") rfl T.m_str boot_str rfl) pa_nil))))) (pw_or1 (pt_cmpR (op_ni_tab T.d_WORDS) (pe_ix ix_tup (pv 0) pe_int (fun _ _ => rfl)) (pe_gref rfl T.g_WORDS) (by rfl))))))) (pss_one (ps_ret pe_bl)) pss_nil)
      (pss_cons (ps_set (i := 1) sc_is_program.nd rfl (Or.inl rfl) (pe_callD D_count_body (hr.mono (by omega)) rfl pass0 (pa_cons (pe_ix ix_tup (pv 0) pe_int (fun _ _ => rfl)) (pa_cons (pe_ix ix_tup (pv 0) pe_int (fun _ _ => rfl)) (pa_cons pe_int pa_nil)))))
      (pss_one (ps_ret (pe_and (pe_cmpR op_notN (pv 1) pe_non (nomark _)) (pe_one (pe_cmpR op_le (pv 1) (pe_gint rfl T.c_MOST_STATEMENTS) (nomark _))))))))), ?_⟩
    cases ht : isTup d with
    | false =>
      refine q_when (b := true) (et_or (b := true) (et_not (et_B (ev_cb (ea_cons (ev_var rfl) (ea_cons ev_c ea_nil)) (isi_d hd ((kit_tup d).trans (congrArg some ht)))))) fun q => by cases q) (fun _ H1 e => s_ret ev_c fun H2 e2 => ?_) fun q => by cases q
      have := kk H2 (e.trans e2)
      rw [isProg_not ht] at this
      exact this
    | true =>
      obtain ⟨a, xs, ds, rfl, rfl, hx, ha⟩ := dp_tupI hd ht
      obtain ⟨hsz, hsm⟩ := hs.tupI
      have hn := dpAll_len ha
      by_cases hl : xs.length = 2
      · obtain ⟨x0, x1, rfl⟩ := len2 hl
        obtain ⟨d0, d1, rfl, h0, h1⟩ := dp2 ha
        have hl0 : Ev (tOp rNe (tCB (rLenS K) (tCons (tVar 0) tNil)) (tC (.int 2))) [some (.ref a), none] H (.bl false) := ev_op (ev_cb (ea_cons (ev_var rfl) ea_nil) (rc_lenT hx)) ev_c (rv_ne rfl)
        cases hst : isStr d0 with
        | false =>
          refine q_when (b := true) (et_is (et_or (b := true) (et_not (et_B (ev_cb (ea_cons (ev_var rfl) (ea_cons ev_c ea_nil)) (isi_d hd (kit_tup _))))) fun _ => et_or (a := false) (b := true) (et_test hl0) fun _ => et_or (a := true) (b := true) (et_not (et_B (ev_cb (ea_cons (ev_op (ev_var rfl) ev_c (rv_ixT hx at0)) (ea_cons ev_c ea_nil)) (isi_d h0 ((kit_str d0).trans (congrArg some hst)))))) fun q => by cases q) rfl) (fun _ H1 e => s_ret ev_c fun H2 e2 => ?_) fun q => by cases q
          have := kk H2 (e.trans e2)
          rw [isProg_str hst] at this
          exact this
        | true =>
          obtain ⟨z, rfl, rfl⟩ := dp_strI h0 hst
          refine q_when (b := !(z == "teller" || z == "collector")) (et_is (et_or (b := !(z == "teller" || z == "collector")) (et_not (et_B (ev_cb (ea_cons (ev_var rfl) (ea_cons ev_c ea_nil)) (isi_d hd (kit_tup _))))) fun _ => et_or (a := false) (b := !(z == "teller" || z == "collector")) (et_test hl0) fun _ => et_or (a := false) (b := !(z == "teller" || z == "collector")) (et_not (et_B (ev_cb (ea_cons (ev_op (ev_var rfl) ev_c (rv_ixT hx at0)) (ea_cons ev_c ea_nil)) (isi_d h0 (kit_str _))))) fun _ => et_is (et_test (ev_op (ev_op (ev_var rfl) ev_c (rv_ixT hx at0)) ev_c rv_niTab)) (congrArg not (kind_is K z))) rfl) ?_ ?_
          · intro hb H1 e
            refine s_ret ev_c fun H2 e2 => ?_
            have := kk H2 (e.trans e2)
            have hz : (z == "teller" || z == "collector") = false := by
              cases q : (z == "teller" || z == "collector") with
              | false => rfl
              | true => rw [q] at hb; cases hb
            have hp : isProg (.tuple [.str z, d1]) = false := by
              show ((z == "teller" || z == "collector") && _) = false
              rw [hz]; rfl
            rw [hp] at this
            exact this
          · intro hb H1 e
            have hz : (z == "teller" || z == "collector") = true := by
              cases q : (z == "teller" || z == "collector") with
              | true => rfl
              | false => rw [q] at hb; cases hb
            have hkd : okKind z := by
              rcases Bool.or_eq_true_iff.mp hz with q | q
              · exact .inl (eq_of_beq q)
              · exact .inr (eq_of_beq q)
            have hx1 := ex_t e hx
            refine q_asg (ev_call (ea_cons (ev_op (ev_var rfl) ev_c (rv_ixT hx1 at0)) (ea_cons (ev_op (ev_var rfl) ev_c (rv_ixT hx1 at1)) (ea_cons ev_c ea_nil))) (spvBod (f := 4) hkd (dp_mono e h1) (hsm _ (by simp)))) fun H2 e2 => ?_
            have hp : isProg (.tuple [.str z, d1]) = (match cntBody z 4 d1 with
                | some n => decide (n ≤ 24)
                | none => false) := by
              show ((z == "teller" || z == "collector") && _) = _
              rw [hz, Bool.true_and]
            rw [hp] at kk
            cases hc : cntBody z 4 d1 with
            | none =>
              rw [hc] at kk
              exact s_ret (ev_andV (a := false) (b := false) (ev_op (ev_var rfl) ev_c rv_notN) fun q => by cases q) fun H3 e3 => kk H3 (e.trans (e2.trans e3))
            | some n =>
              rw [hc] at kk
              exact s_ret (ev_andV (a := true) (ev_op (ev_var rfl) ev_c rv_notN) fun _ => ev_op (ev_var rfl) ev_c rv_le) fun H3 e3 => kk H3 (e.trans (e2.trans e3))
      · refine q_when (b := true) (et_or (b := true) (et_not (et_B (ev_cb (ea_cons (ev_var rfl) (ea_cons ev_c ea_nil)) (isi_d hd (kit_tup _))))) fun _ => et_or (a := true) (b := true) (et_is (et_test (ev_op (ev_cb (ea_cons (ev_var rfl) ea_nil) (rc_lenT hx)) ev_c (rv_ne rfl))) ((int_ne xs.length 2).trans (by rw [decide_eq_false hl]; rfl))) fun q => by cases q) (fun _ H1 e => s_ret ev_c fun H2 e2 => ?_) fun q => by cases q
        have := kk H2 (e.trans e2)
        rw [isProg_len (by rw [← hn]; exact hl)] at this
        exact this
end

end Nt

namespace Nt
open PySem PySem.Spec PyProof.Rows L2 Evl
/-! ### counts of programs as data: what needs no bag (out of the older texts) -/
def okSimple (kind : Str) (d : PyData) : Prop := ∃ z ps, d = .tuple (.str z :: ps) ∧ (words kind).contains z = true ∧ chk z ps = true
theorem sumO_one (o : Option Int) : sumO [o] = o := by
  cases o with
  | none => rfl
  | some n => show some (n + 0) = some n; rw [Int.add_zero]
theorem sumO_nil : sumO [] = some 0 := rfl
theorem sumO_cons (o : Option Int) (l : List (Option Int)) : sumO (o :: l) = match o, sumO l with
    | some a, some b => some (a + b)
    | _, _ => none := by
  unfold sumO
  cases o with
  | none => rfl
  | some a =>
    rw [List.any_cons]
    show (if (false || l.any Option.isNone) = true then none else some (a + (l.map (·.getD 0)).sum)) = _
    rw [Bool.false_or]
    by_cases h : l.any Option.isNone = true
    · rw [if_pos h, if_pos h]
    · rw [if_neg h, if_neg h]
theorem sumO_two (a b : Option Int) : sumO [a, b] = match a, b with
    | some x, some y => some (x + y)
    | _, _ => none := by
  rw [sumO_cons, sumO_one]
  all_goals (cases a <;> cases b <;> rfl)
theorem sumO_append (k l : List (Option Int)) : sumO (k ++ l) = match sumO k, sumO l with
    | some a, some b => some (a + b)
    | _, _ => none := by
  induction k with
  | nil =>
    rw [List.nil_append, sumO_nil]
    cases sumO l with
    | none => rfl
    | some b => show _ = some (0 + b); rw [Int.zero_add]
  | cons o k ih =>
    rw [List.cons_append, sumO_cons, ih, sumO_cons]
    cases o with
    | none => rfl
    | some a =>
      cases sumO k with
      | none => rfl
      | some b =>
        cases sumO l with
        | none => rfl
        | some c => show some (a + (b + c)) = some (a + b + c); rw [Int.add_assoc]
theorem cntBody_nil (kind : Str) (f : Nat) : cntBody kind f (.tuple []) = some 0 := by cases f <;> rfl
theorem cntBody_S (kind : Str) (f : Nat) (ss : List PyData) : cntBody kind (f + 1) (.tuple ss) = sumO (ss.map (cntStmt kind (cntBody kind f))) := rfl
theorem Sm.of_atoms {xs : List PyData} (h : xs.length ≤ 20000) (ha : ∀ x, x ∈ xs → Sm x) : Sm (.tuple xs) := .tuple h ha
theorem sm_isOne {ns : List Str} {d : PyData} (h : isOne ns d = true) : Sm d := by
  cases d <;> first | exact .str _ | cases h
theorem sm_isVal {d : PyData} (h : isVal d = true) : Sm d := by
  cases d <;> first | exact .int _ | cases h
theorem sm_isTerm {d : PyData} (h : isTerm d = true) : Sm d := by
  rcases Bool.or_eq_true_iff.mp h with h | h
  · exact sm_isVal h
  · exact sm_isOne h
theorem all2 {P : PyData → Prop} {a b : PyData} (ha : P a) (hb : P b) : ∀ x, x ∈ [a, b] → P x := by
  intro x hx
  rcases List.mem_cons.mp hx with rfl | hx
  · exact ha
  · rw [List.mem_singleton.mp hx]; exact hb
theorem all3 {P : PyData → Prop} {a b c : PyData} (ha : P a) (hb : P b) (hc : P c) : ∀ x, x ∈ [a, b, c] → P x := by
  intro x hx
  rcases List.mem_cons.mp hx with rfl | hx
  · exact ha
  · exact all2 hb hc x hx
theorem all4 {P : PyData → Prop} {a b c d : PyData} (ha : P a) (hb : P b) (hc : P c) (hd : P d) : ∀ x, x ∈ [a, b, c, d] → P x := by
  intro x hx
  rcases List.mem_cons.mp hx with rfl | hx
  · exact ha
  · exact all3 hb hc hd x hx
theorem all1 {P : PyData → Prop} {a : PyData} (ha : P a) : ∀ x, x ∈ [a] → P x := by
  intro x hx
  rw [List.mem_singleton.mp hx]; exact ha
theorem sm_isCond {d : PyData} (h : isCond d = true) : Sm d := by
  unfold isCond at h
  split at h
  · obtain ⟨h1, h2⟩ := He.ba h
    obtain ⟨h2, h3⟩ := He.ba h2
    exact .tuple ok20 (all3 (sm_isOne h1) (sm_isOne h2) (sm_isTerm h3))
  · cases h
theorem chk_len {z : Str} {ps : List PyData} (h : chk z ps = true) : ps.length ≤ 3 ∧ ∀ x, x ∈ ps → Sm x := by
  unfold chk at h
  split at h
  · by_cases hl : ps.length = 2
    · obtain ⟨a, b, rfl⟩ := len2 hl
      obtain ⟨h1, h2⟩ := He.ba h
      exact ⟨by simp, all2 (sm_isOne h1) (sm_isVal h2)⟩
    · rw [pSet_len hl] at h; cases h
  · split at h
    · by_cases hl : ps.length = 2
      · obtain ⟨a, b, rfl⟩ := len2 hl
        obtain ⟨h1, h2⟩ := He.ba h
        exact ⟨by simp, all2 (sm_isOne h1) (sm_isTerm h2)⟩
      · rw [pAdd_len hl] at h; cases h
    · split at h
      · by_cases hl : ps.length = 1
        · obtain ⟨a, rfl⟩ := len1 hl
          refine ⟨by simp, all1 ?_⟩
          cases a <;> first | exact .int _ | cases h
        · rw [pWait_len hl] at h; cases h
      · split at h
        · by_cases hl : ps.length = 3
          · obtain ⟨a, b, c, rfl⟩ := len3 hl
            obtain ⟨h1, h2⟩ := He.ba h
            obtain ⟨h2, h3⟩ := He.ba h2
            exact ⟨by simp, all3 (sm_isOne h1) (sm_isTerm h2) (sm_isOne h3)⟩
          · rw [pAsk_len hl] at h; cases h
        · split at h
          · by_cases hl : ps.length = 1
            · obtain ⟨a, rfl⟩ := len1 hl
              refine ⟨by simp, all1 ?_⟩
              cases a <;> first | exact .int _ | cases h
            · rw [pAns_len hl] at h; cases h
          · by_cases hl : ps.length = 1
            · obtain ⟨a, rfl⟩ := len1 hl
              exact ⟨by simp, all1 (sm_isTerm h)⟩
            · rw [pTerm_len hl] at h; cases h
theorem okSimple.sm {kind : Str} {d : PyData} (h : okSimple kind d) : Sm d := by
  obtain ⟨z, ps, rfl, _, h⟩ := h
  obtain ⟨h1, h2⟩ := chk_len h
  refine .tuple (by rw [List.length_cons]; omega) fun x hx => ?_
  rcases List.mem_cons.mp hx with rfl | hx
  · exact .str _
  · exact h2 x hx
theorem words_noblk {kind z : Str} (h : (words kind).contains z = true) : isBlk z = false := by
  have hm : z ∈ words kind := List.contains_iff_mem.mp h
  unfold words wordsT wordsC at hm
  split at hm <;> simp only [List.mem_cons, List.not_mem_nil, or_false] at hm <;> rcases hm with q | q | q | q | q <;> (rw [q]; decide +kernel)
theorem okSimple.cnt {kind : Str} {d : PyData} (h : okSimple kind d) (cb : PyData → Option Int) : cntStmt kind cb d = some 1 := by
  obtain ⟨z, ps, rfl, h1, h2⟩ := h
  rw [cntStmt_one (words_noblk h1), h1, h2]; rfl
theorem simple_sum {kind : Str} {cb : PyData → Option Int} : ∀ {fs : List PyData}, (∀ d, d ∈ fs → okSimple kind d) → sumO (fs.map (cntStmt kind cb)) = some (fs.length : Int)
  | [], _ => rfl
  | d :: fs, h => by
    rw [List.map_cons, sumO_cons, (h d (List.mem_cons_self ..)).cnt, simple_sum fun x hx => h x (List.mem_cons_of_mem _ hx)]
    show some (1 + (fs.length : Int)) = some ((fs.length + 1 : Nat) : Int)
    congr 1; omega
theorem isProg_eq {kind : Str} {b : PyData} (h : okKind kind) : isProg (.tuple [.str kind, b]) = (match cntBody kind 4 b with
    | some n => decide (n ≤ 24)
    | none => false) := by
  have hz : (kind == "teller" || kind == "collector") = true := by rcases h with rfl | rfl <;> decide +kernel
  show ((kind == "teller" || kind == "collector") && _) = _
  rw [hz, Bool.true_and]
  all_goals rfl

/-! ### data of small depth and small lengths -/
def isAt : PyData → Bool
  | .none | .bool _ | .int _ | .str _ => true
  | _ => false
theorem isAt_nt {d : PyData} (h : isAt d = true) : isTup d = false := by
  cases d <;> first | rfl | cases h
theorem isAt_sm {d : PyData} (h : isAt d = true) : Sm d := by
  cases d <;> first | exact .none | exact .bool _ | exact .int _ | exact .str _ | cases h
def Sd : Nat → PyData → Prop
  | 0, d => isAt d = true
  | k + 1, d => isAt d = true ∨ ∃ ds, d = .tuple ds ∧ ds.length ≤ 1000 ∧ ∀ x, x ∈ ds → Sd k x
theorem Sd.sm : ∀ {k : Nat} {d : PyData}, Sd k d → Sm d
  | 0, _, h => isAt_sm h
  | k + 1, d, h => by
    rcases h with h | ⟨ds, rfl, hl, ha⟩
    · exact isAt_sm h
    · exact .tuple (by omega) fun x hx => (ha x hx).sm
theorem Sd.atom {k : Nat} {d : PyData} (h : isAt d = true) : Sd k d := by
  cases k with
  | zero => exact h
  | succ k => exact .inl h
theorem Sd.up : ∀ {k : Nat} {d : PyData}, Sd k d → Sd (k + 1) d
  | 0, _, h => .inl h
  | k + 1, d, h => by
    rcases h with h | ⟨ds, rfl, hl, ha⟩
    · exact .inl h
    · exact .inr ⟨ds, rfl, hl, fun x hx => (ha x hx).up⟩
theorem Sd.mono {k m : Nat} {d : PyData} (h : Sd k d) (hm : k ≤ m) : Sd m d := by
  obtain ⟨j, rfl⟩ := Nat.exists_eq_add_of_le hm
  induction j with
  | zero => exact h
  | succ j ih => exact (ih (by omega)).up
theorem Sd.tup {k : Nat} {ds : List PyData} (hl : ds.length ≤ 1000) (ha : ∀ x, x ∈ ds → Sd k x) : Sd (k + 1) (.tuple ds) := .inr ⟨ds, rfl, hl, ha⟩
theorem Sd.tupI {k : Nat} {ds : List PyData} (h : Sd k (.tuple ds)) : ∃ k', k = k' + 1 ∧ ds.length ≤ 1000 ∧ ∀ x, x ∈ ds → Sd k' x := by
  cases k with
  | zero => cases h
  | succ k =>
    rcases h with h | ⟨es, e, hl, ha⟩
    · cases h
    · cases e
      exact ⟨k, rfl, hl, ha⟩
theorem nt_isOne {ns : List Str} {d : PyData} (h : isOne ns d = true) : isAt d = true := by
  cases d <;> first | rfl | cases h
theorem nt_isVal {d : PyData} (h : isVal d = true) : isAt d = true := by
  cases d <;> first | rfl | cases h
theorem nt_isTerm {d : PyData} (h : isTerm d = true) : isAt d = true := by
  rcases Bool.or_eq_true_iff.mp h with h | h
  · exact nt_isVal h
  · exact nt_isOne h
theorem sd_isCond {d : PyData} (h : isCond d = true) : Sd 1 d := by
  unfold isCond at h
  split at h
  · obtain ⟨h1, h2⟩ := He.ba h
    obtain ⟨h2, h3⟩ := He.ba h2
    exact .tup (k := 0) (by simp) (all3 (nt_isOne h1) (nt_isOne h2) (nt_isTerm h3))
  · cases h
theorem chk_atom {z : Str} {ps : List PyData} (h : chk z ps = true) : ∀ x, x ∈ ps → isAt x = true := by
  unfold chk at h
  split at h
  · by_cases hl : ps.length = 2
    · obtain ⟨a, b, rfl⟩ := len2 hl
      obtain ⟨h1, h2⟩ := He.ba h
      exact all2 (nt_isOne h1) (nt_isVal h2)
    · rw [pSet_len hl] at h; cases h
  · split at h
    · by_cases hl : ps.length = 2
      · obtain ⟨a, b, rfl⟩ := len2 hl
        obtain ⟨h1, h2⟩ := He.ba h
        exact all2 (nt_isOne h1) (nt_isTerm h2)
      · rw [pAdd_len hl] at h; cases h
    · split at h
      · by_cases hl : ps.length = 1
        · obtain ⟨a, rfl⟩ := len1 hl
          refine all1 ?_
          cases a <;> first | rfl | cases h
        · rw [pWait_len hl] at h; cases h
      · split at h
        · by_cases hl : ps.length = 3
          · obtain ⟨a, b, c, rfl⟩ := len3 hl
            obtain ⟨h1, h2⟩ := He.ba h
            obtain ⟨h2, h3⟩ := He.ba h2
            exact all3 (nt_isOne h1) (nt_isTerm h2) (nt_isOne h3)
          · rw [pAsk_len hl] at h; cases h
        · split at h
          · by_cases hl : ps.length = 1
            · obtain ⟨a, rfl⟩ := len1 hl
              refine all1 ?_
              cases a <;> first | rfl | cases h
            · rw [pAns_len hl] at h; cases h
          · by_cases hl : ps.length = 1
            · obtain ⟨a, rfl⟩ := len1 hl
              exact all1 (nt_isTerm h)
            · rw [pTerm_len hl] at h; cases h
theorem sumO_nn : ∀ {l : List (Option Int)} {n : Int}, sumO l = some n → (∀ a, some a ∈ l → 0 ≤ a) → 0 ≤ n ∧ ∀ o, o ∈ l → ∃ a, o = some a ∧ 0 ≤ a ∧ a ≤ n
  | [], n, h, _ => by
    rw [sumO_nil] at h
    cases h
    exact ⟨by decide, fun o ho => by cases ho⟩
  | o :: l, n, h, ha => by
    rw [sumO_cons] at h
    cases o with
    | none => cases h
    | some a =>
      cases q : sumO l with
      | none => rw [q] at h; cases h
      | some b =>
        rw [q] at h
        have h : a + b = n := by injection h
        obtain ⟨hb, hr⟩ := sumO_nn q fun a hm => ha a (List.mem_cons_of_mem _ hm)
        have h0 := ha a (List.mem_cons_self ..)
        refine ⟨by omega, fun o ho => ?_⟩
        rcases List.mem_cons.mp ho with rfl | ho
        · exact ⟨a, rfl, h0, by omega⟩
        · obtain ⟨c, hc, hc0, hcb⟩ := hr o ho
          exact ⟨c, hc, hc0, by omega⟩
theorem sumO_pos : ∀ {l : List (Option Int)} {n : Int}, sumO l = some n → (∀ a, some a ∈ l → 1 ≤ a) → (l.length : Int) ≤ n
  | [], n, h, _ => by
    rw [sumO_nil] at h
    cases h
    exact Int.le_refl _
  | o :: l, n, h, ha => by
    rw [sumO_cons] at h
    cases o with
    | none => cases h
    | some a =>
      cases q : sumO l with
      | none => rw [q] at h; cases h
      | some b =>
        rw [q] at h
        have h : a + b = n := by injection h
        have hr := sumO_pos q fun a hm => ha a (List.mem_cons_of_mem _ hm)
        have h0 := ha a (List.mem_cons_self ..)
        rw [List.length_cons]
        omega
theorem sd_stmt {kind : Str} {cb : PyData → Option Int} {m : Nat} (hm : 1 ≤ m) (hcb : ∀ d n, cb d = some n → 0 ≤ n ∧ (n ≤ 1000 → Sd m d)) {d : PyData} {n : Int} (h : cntStmt kind cb d = some n) : 1 ≤ n ∧ (n ≤ 1000 → Sd (m + 1) d) := by
  unfold cntStmt at h
  split at h
  · rename_i z parts
    split at h
    · unfold cntBlock at h
      split at h
      · rename_i hc
        obtain ⟨hl, hc⟩ := hc
        cases q : sumO ((parts.drop 1).map cb) with
        | none => rw [q] at h; cases h
        | some s =>
          rw [q] at h
          have h : 1 + s = n := by injection h
          obtain ⟨hs0, hs⟩ := sumO_nn q fun a ha => by
            obtain ⟨x, _, e⟩ := List.mem_map.mp ha
            exact (hcb x a e).1
          refine ⟨by omega, fun hn => .tup ?_ fun x hx => ?_⟩
          · rw [List.length_drop] at hl
            have : nBod z ≤ 2 := by unfold nBod; split <;> omega
            rw [List.length_cons]; omega
          · rcases List.mem_cons.mp hx with rfl | hx
            · exact .atom rfl
            · cases parts with
              | nil => cases hx
              | cons p ps =>
                rcases List.mem_cons.mp hx with rfl | hx
                · exact (sd_isCond hc).mono hm
                · obtain ⟨a, e, h0, h1⟩ := hs (cb x) (List.mem_map.mpr ⟨x, hx, rfl⟩)
                  exact (hcb x a e).2 (by omega)
      · cases h
    · split at h
      · rename_i hc
        have h : (1 : Int) = n := by injection h
        obtain ⟨_, hc⟩ := He.ba hc
        refine ⟨by omega, fun _ => .tup ?_ fun x hx => ?_⟩
        · have := (chk_len hc).1
          rw [List.length_cons]; omega
        · rcases List.mem_cons.mp hx with rfl | hx
          · exact .atom rfl
          · exact .atom (chk_atom hc x hx)
      · cases h
  · cases h
theorem sd_body {kind : Str} : ∀ (f : Nat) (d : PyData) (n : Int), cntBody kind f d = some n → 0 ≤ n ∧ (n ≤ 1000 → Sd (2 * f + 1) d)
  | 0, d, n, h => by
    unfold cntBody at h
    split at h
    · have h : (0 : Int) = n := by injection h
      exact ⟨by omega, fun _ => .tup (by simp) fun x hx => by cases hx⟩
    · rename_i q; cases q
    · cases h
  | f + 1, d, n, h => by
    unfold cntBody at h
    split at h
    · rename_i q; cases q
    · rename_i f' ss q
      have q : f = f' := by injection q
      subst q
      have hst := fun x a (e : cntStmt kind (cntBody kind f) x = some a) => sd_stmt (by omega) (sd_body (kind := kind) f) e
      have hp : (ss.length : Int) ≤ n := by
        have := sumO_pos h fun a ha => by
          obtain ⟨x, _, e⟩ := List.mem_map.mp ha
          exact (hst x a e).1
        rw [List.length_map] at this
        exact this
      obtain ⟨h0, h1⟩ := sumO_nn h fun a ha => by
        obtain ⟨x, _, e⟩ := List.mem_map.mp ha
        have := (hst x a e).1
        omega
      refine ⟨h0, fun hn => .tup (by omega) fun x hx => ?_⟩
      obtain ⟨a, e, ha0, ha1⟩ := h1 _ (List.mem_map.mpr ⟨x, hx, rfl⟩)
      exact (hst x a e).2 (by omega)
    · cases h
theorem mem_cut {ds : List PyData} {lo hi : Option Int} {x : PyData} (h : x ∈ cutD ds lo hi) : x ∈ ds := List.mem_of_mem_drop (List.mem_of_mem_take h)
theorem len_cut (ds : List PyData) (lo hi : Option Int) : (cutD ds lo hi).length ≤ ds.length := by
  unfold cutD
  rw [List.length_take, List.length_drop]
  omega
/-! ### no dicts, small depth -/
theorem plainAll_of {ds : List PyData} (h : ∀ x, x ∈ ds → x.plain = true) : PyData.plainAll ds = true := by
  induction ds with
  | nil => rw [PyData.plainAll]
  | cons d ds ih => rw [PyData.plainAll, h d (List.mem_cons_self ..), ih fun x hx => h x (List.mem_cons_of_mem _ hx)]; rfl
theorem depthAll_of {ds : List PyData} {k : Nat} (h : ∀ x, x ∈ ds → x.depth ≤ k) : PyData.depthAll ds ≤ k := by
  induction ds with
  | nil => rw [PyData.depthAll]; omega
  | cons d ds ih =>
    rw [PyData.depthAll]
    have h1 := h d (List.mem_cons_self ..)
    have h2 := ih fun x hx => h x (List.mem_cons_of_mem _ hx)
    omega
/-- no dict, at most so deep -/
structure Pn (k : Nat) (d : PyData) : Prop where
  p : d.plain = true
  d : d.depth ≤ k
theorem Pn.at {k : Nat} {d : PyData} (h : isAt d = true) : Pn k d := by
  cases d <;> first | exact ⟨by rw [PyData.plain], by rw [PyData.depth]; omega⟩ | cases h
theorem Pn.mono {k m : Nat} {d : PyData} (h : Pn k d) (e : k ≤ m) : Pn m d := ⟨h.p, Nat.le_trans h.d e⟩
theorem Pn.tup {k : Nat} {ds : List PyData} (h : ∀ x, x ∈ ds → Pn k x) : Pn (k + 1) (.tuple ds) :=
  ⟨by rw [PyData.plain]; exact plainAll_of fun x hx => (h x hx).p, by rw [PyData.depth]; exact Nat.succ_le_succ (depthAll_of fun x hx => (h x hx).d)⟩
theorem Pn.lst {k : Nat} {ds : List PyData} (h : ∀ x, x ∈ ds → Pn k x) : Pn (k + 1) (.list ds) :=
  ⟨by rw [PyData.plain]; exact plainAll_of fun x hx => (h x hx).p, by rw [PyData.depth]; exact Nat.succ_le_succ (depthAll_of fun x hx => (h x hx).d)⟩
theorem Sd.pn : ∀ {k : Nat} {d : PyData}, Sd k d → Pn k d
  | 0, _, h => .at h
  | k + 1, d, h => by
    rcases h with h | ⟨ds, rfl, hl, ha⟩
    · exact .at h
    · exact .tup fun x hx => (ha x hx).pn

end Nt

namespace Nt
open PySem PySem.Spec PyProof.Rows L2 Evl
/-! ### check_program -/
theorem isProg_inv {d : PyData} (h : isProg d = true) : ∃ z body n, d = .tuple [.str z, body] ∧ okKind z ∧ cntBody z 4 body = some n ∧ n ≤ 24 := by
  unfold isProg at h
  split at h
  · rename_i z body
    obtain ⟨h1, h2⟩ := He.ba h
    have hk : okKind z := by
      rcases Bool.or_eq_true_iff.mp h1 with q | q
      · exact .inl (eq_of_beq q)
      · exact .inr (eq_of_beq q)
    cases q : cntBody z 4 body with
    | none => rw [q] at h2; cases h2
    | some n => rw [q] at h2; exact ⟨z, body, n, rfl, hk, q, of_decide_eq_true h2⟩
  · cases h
def optK : Option Str → V
  | none => .non
  | some k => .str k
def kindIs (k : Str) : PyData → Bool
  | .tuple (.str z :: _) => decide (z = k)
  | _ => false
def isProgK (ko : Option Str) (d : PyData) : Bool := isProg d && (match ko with
  | none => true
  | some k => kindIs k d)
def spChk (K : PySem.W.Frag) : Sp := fun vs H Q E => ∃ v d ko, vs = [v, optK ko] ∧ Dp K H v d ∧ Sm d ∧ (isProgK ko d = true → ∀ H', Same H H' → Q .non H') ∧ (isProgK ko d = false → ∀ H', Same H H' → E (.ref (He.ga K "BadProgram")) none H')
section
variable {P : Program} {w : World} {K : PySem.W.Frag} {mg : Str → Option Value} {base : Heap}
theorem fn_check_program (T : Txt w K mg) : ∃ fd, FunD K "check_program" "check_program" (defArgs s_check_program) (defBody s_check_program) (defScope s_check_program) [] [(("kind" : Str), V.non)] (He.ga K "check_program") fd ∧ FnOk P w K mg base (L2.CX P w) 18 (He.ga K "check_program") fd ["thing", "kind"] (spChk K) := by
  have D_is_program := ok_is_program (P := P) (base := base) T
  obtain ⟨fd, F⟩ := T.F_check_program
  refine ⟨fd, F, F.ok sc_check_program (fun vs H Q E h => ?_) (fun cdv A outer s H vs Q E hr h => ?_)⟩
  · obtain ⟨v, d, ko, rfl, _⟩ := h; rfl
  · obtain ⟨v, d, ko, rfl, hd, hs, kq, ke⟩ := h
    refine ⟨_, (pss_one (ps_if (PW.pt (pw_or (pt_not (pt_val (pe_callD D_is_program (hr.mono (by omega)) rfl pass0 (pa_cons (pv 0) pa_nil)))) (pw_or1 (PW.pt (pw_and (pt_cmpR op_notN (pv 1) pe_non (nomark _)) (pw_and1 (pt_cmpR op_ne (pe_ix ix_tup (pv 0) pe_int (fun _ _ => rfl)) (pv 1) (nomark _)))))))) (pss_one (ps_raise rfl (takes_of rfl rfl rfl rfl) (pmk_own0 PySem.F.excBase_ValueError T.x_BadProgram.q T.g_BadProgram T.x_BadProgram.k (raises_own T.x_BadProgram.s T.x_BadProgram.t) rfl))) pss_nil)), ?_⟩
    cases hp : isProg d with
    | false =>
      have hk : isProgK ko d = false := by unfold isProgK; rw [hp]; rfl
      refine s_when (b := true) (et_or (a := true) (b := true) (et_is (et_not (et_B (ev_call (ea_cons (ev_var rfl) ea_nil) (spvProg hd hs)))) (by rw [hp]; rfl)) fun q => by cases q) (fun _ H1 e => ke hk H1 e) fun q => by cases q
    | true =>
      obtain ⟨z, body, n, rfl, hkz, hc, hn⟩ := isProg_inv hp
      obtain ⟨a, xs, rfl, hx, hds⟩ := dpT hd
      obtain ⟨x0, x1, rfl⟩ := len2 (dpAll_len hds)
      obtain ⟨_, _, e, h0, h1⟩ := dp2 hds
      cases e
      cases dpS h0
      have e1 : EvT (tNot (tB (tCall (spProg K) [] E0 (tCons (tVar 0) tNil)))) [some (.ref a), some (optK ko)] H false := et_is (et_not (et_B (ev_call (ea_cons (ev_var rfl) ea_nil) (spvProg hd hs)))) (by rw [hp]; rfl)
      cases ko with
      | none =>
        refine s_when (b := false) (et_or (a := false) (b := false) e1 fun _ => et_and (a := false) (b := false) (et_test (ev_op (ev_var rfl) ev_c rv_notN)) fun q => by cases q) (fun q => by cases q) fun _ H1 e => kq ?_ H1 e
        unfold isProgK; rw [hp]; rfl
      | some k =>
        have hk : isProgK (some k) (.tuple [.str z, body]) = decide (z = k) := by unfold isProgK; rw [hp]; rfl
        refine s_when (b := !decide (z = k)) (et_or (a := false) (b := !decide (z = k)) e1 fun _ => et_is (et_and (a := true) (b := !decide (z = k)) (et_test (ev_op (ev_var rfl) ev_c rv_notN)) fun _ => et_is (et_test (ev_op (ev_op (ev_var rfl) ev_c (rv_ixT hx at0)) (ev_var rfl) (rv_ne rfl))) (congrArg not (dec_strV z k))) (Bool.true_and _)) (fun hb H1 e => ke ?_ H1 e) fun hb H1 e => kq ?_ H1 e
        · rw [hk]
          cases q : decide (z = k) with
          | false => rfl
          | true => rw [q] at hb; cases hb
        · rw [hk]
          cases q : decide (z = k) with
          | true => rfl
          | false => rw [q] at hb; cases hb
theorem ok_check_program (T : Txt w K mg) : DefV P w K mg base (L2.CX P w) 18 "check_program" ["thing", "kind"] [.non] (spChk K) := by
  obtain ⟨fd, F, G⟩ := fn_check_program (P := P) (base := base) T
  obtain ⟨ds, h1, h2⟩ := F.binds0 (ps := ["thing", "kind"]) 1 (by simp) rfl (fun D doc pm an cdv ct us ks hl hk => match us, ks, hl, hk with
    | [_], [_], _, _ => ⟨_, _, _, _, _, _, rfl, rfl, rfl⟩)
  exact ⟨_, fd, ds, T.g_check_program, F.kp, h1, h2, G⟩
end

end Nt

namespace Nt
open PySem PySem.Spec PyProof.Rows L2 Evl
/-! ### the instructions of a body that begins at place n -/
def tstD (c : PyData) (n : Nat) : PyData := .tuple [.str "test", c, .int (n : Int)]
def jmpD (n : Nat) : PyData := .tuple [.str "jump", .int (n : Int)]
def isNil : PyData → Bool
  | .tuple [] => true
  | _ => false
def codeWhile (cb : Nat → PyData → List PyData) (n : Nat) (c b : PyData) : List PyData := tstD c (n + (cb (n + 1) b).length + 2) :: (cb (n + 1) b ++ [jmpD n])
def codeIf (cb : Nat → PyData → List PyData) (n : Nat) (c b1 b2 : PyData) : List PyData :=
  if isNil b2 = true then tstD c (n + (cb (n + 1) b1).length + 1) :: cb (n + 1) b1
  else tstD c (n + (cb (n + 1) b1).length + 2) :: (cb (n + 1) b1 ++ jmpD (n + (cb (n + 1) b1).length + 2 + (cb (n + (cb (n + 1) b1).length + 2) b2).length) :: cb (n + (cb (n + 1) b1).length + 2) b2)
def codeStmt (cb : Nat → PyData → List PyData) (n : Nat) (d : PyData) : List PyData := match d with
  | .tuple [.str z, c, b] => if z = "while" then codeWhile cb n c b else [d]
  | .tuple [.str z, c, b1, b2] => if z = "if" then codeIf cb n c b1 b2 else [d]
  | _ => [d]
def codeStmts (cs : Nat → PyData → List PyData) : Nat → List PyData → List PyData
  | _, [] => []
  | n, s :: ss => cs n s ++ codeStmts cs (n + (cs n s).length) ss
def codeBody : Nat → Nat → PyData → List PyData
  | f + 1, n, .tuple ss => codeStmts (codeStmt (codeBody f)) n ss
  | _, _, _ => []
theorem codeStmts_snoc {cs : Nat → PyData → List PyData} : ∀ {n : Nat} {ss : List PyData} {s : PyData}, codeStmts cs n (ss ++ [s]) = codeStmts cs n ss ++ cs (n + (codeStmts cs n ss).length) s
  | n, [], s => by
    show cs n s ++ [] = [] ++ cs (n + 0) s
    rw [List.append_nil, List.nil_append, Nat.add_zero]
  | n, x :: ss, s => by
    show cs n x ++ codeStmts cs (n + (cs n x).length) (ss ++ [s]) = (cs n x ++ codeStmts cs (n + (cs n x).length) ss) ++ cs (n + (cs n x ++ codeStmts cs (n + (cs n x).length) ss).length) s
    rw [codeStmts_snoc, List.append_assoc, List.length_append, Nat.add_assoc]
theorem codeBody_nil {f n : Nat} : codeBody f n (.tuple []) = [] := by cases f <;> rfl
theorem codeBody_S {f n : Nat} {ss : List PyData} : codeBody (f + 1) n (.tuple ss) = codeStmts (codeStmt (codeBody f)) n ss := rfl
theorem codeStmt_while {cb : Nat → PyData → List PyData} {n : Nat} {c b : PyData} : codeStmt cb n (.tuple [.str "while", c, b]) = codeWhile cb n c b := by
  show (if ("while" : Str) = "while" then codeWhile cb n c b else [.tuple [.str "while", c, b]]) = _
  rw [if_pos rfl]
theorem codeStmt_if {cb : Nat → PyData → List PyData} {n : Nat} {c b1 b2 : PyData} : codeStmt cb n (.tuple [.str "if", c, b1, b2]) = codeIf cb n c b1 b2 := by
  show (if ("if" : Str) = "if" then codeIf cb n c b1 b2 else [.tuple [.str "if", c, b1, b2]]) = _
  rw [if_pos rfl]
theorem noBlk {z : Str} (h : isBlk z = false) : z ≠ "if" ∧ z ≠ "while" := by
  refine ⟨fun q => ?_, fun q => ?_⟩ <;> (rw [q] at h; exact absurd h (by decide +kernel))
theorem codeStmt_one {cb : Nat → PyData → List PyData} {n : Nat} {z : Str} {ps : List PyData} (h : isBlk z = false) : codeStmt cb n (.tuple (.str z :: ps)) = [.tuple (.str z :: ps)] := by
  obtain ⟨h1, h2⟩ := noBlk h
  unfold codeStmt
  split
  · rename_i q
    injection q with q
    injection q with q _
    injection q with q
    rw [if_neg (by rw [← q]; exact h2)]
  · rename_i q
    injection q with q
    injection q with q _
    injection q with q
    rw [if_neg (by rw [← q]; exact h1)]
  · rfl
/-- a counted statement is one of three -/
theorem stmt_cases {kind : Str} {cb : PyData → Option Int} {d : PyData} {m : Int} (h : cntStmt kind cb d = some m) :
    (∃ z ps, d = .tuple (.str z :: ps) ∧ isBlk z = false ∧ (words kind).contains z = true ∧ chk z ps = true ∧ m = 1) ∨ (∃ c b k, d = .tuple [.str "while", c, b] ∧ isCond c = true ∧ cb b = some k ∧ m = 1 + k) ∨
    (∃ c b1 b2 k1 k2, d = .tuple [.str "if", c, b1, b2] ∧ isCond c = true ∧ cb b1 = some k1 ∧ cb b2 = some k2 ∧ m = 1 + (k1 + k2)) := by
  unfold cntStmt at h
  split at h
  · rename_i z parts
    split at h
    · rename_i hz
      unfold cntBlock at h
      split at h
      · rename_i hc
        obtain ⟨hl, hc⟩ := hc
        rcases Bool.or_eq_true_iff.mp hz with q | q
        · have q := eq_of_beq q
          subst q
          have e2 : nBod "if" = 2 := by decide +kernel
          rw [e2, List.length_drop] at hl
          obtain ⟨c, b1, b2, rfl⟩ := len3 (show parts.length = 3 by omega)
          refine .inr (.inr ?_)
          have h' : (sumO [cb b1, cb b2]).map (1 + ·) = some m := h
          rw [sumO_two] at h'
          cases q1 : cb b1 with
          | none => rw [q1] at h'; cases h'
          | some k1 =>
            cases q2 : cb b2 with
            | none => rw [q1, q2] at h'; cases h'
            | some k2 =>
              rw [q1, q2] at h'
              have h' : 1 + (k1 + k2) = m := by injection h'
              exact ⟨c, b1, b2, k1, k2, rfl, hc, q1, q2, h'.symm⟩
        · have q := eq_of_beq q
          subst q
          have e2 : nBod "while" = 1 := by decide +kernel
          rw [e2, List.length_drop] at hl
          obtain ⟨c, b, rfl⟩ := len2 (show parts.length = 2 by omega)
          refine .inr (.inl ?_)
          have h' : (sumO [cb b]).map (1 + ·) = some m := h
          rw [sumO_one] at h'
          cases q1 : cb b with
          | none => rw [q1] at h'; cases h'
          | some k =>
            rw [q1] at h'
            have h' : 1 + k = m := by injection h'
            exact ⟨c, b, k, rfl, hc, q1, h'.symm⟩
      · cases h
    · rename_i hz
      split at h
      · rename_i hc
        have h : (1 : Int) = m := by injection h
        obtain ⟨h1, h2⟩ := He.ba hc
        refine .inl ⟨z, parts, rfl, ?_, h1, h2, h.symm⟩
        cases q : isBlk z with
        | false => rfl
        | true => exact absurd q hz
      · cases h
  · cases h
theorem body_tup {kind : Str} {f : Nat} {d : PyData} {n : Int} (h : cntBody kind f d = some n) : ∃ ss, d = .tuple ss := by
  cases q : isTup d with
  | false => rw [cntBody_not q] at h; cases h
  | true => cases d <;> first | exact ⟨_, rfl⟩ | cases q
theorem body_nn {kind : Str} {f : Nat} {d : PyData} {n : Int} (h : cntBody kind f d = some n) : 0 ≤ n := (sd_body f d n h).1
theorem code_len {kind : Str} : ∀ (f : Nat) (d : PyData) (n : Int) (m : Nat), cntBody kind f d = some n → ((codeBody f m d).length : Int) ≤ 2 * n
  | 0, d, n, m, h => by
    have h0 := body_nn h
    show (0 : Int) ≤ _
    omega
  | f + 1, d, n, m, h => by
    obtain ⟨ss, rfl⟩ := body_tup h
    rw [codeBody_S]
    rw [cntBody_S] at h
    have hst : ∀ (s : PyData) (k : Int) (m : Nat), cntStmt kind (cntBody kind f) s = some k → ((codeStmt (codeBody f) m s).length : Int) ≤ 2 * k := fun s k m hk => by
      rcases stmt_cases hk with ⟨z, ps, rfl, hz, _, _, rfl⟩ | ⟨c, b, k1, rfl, hc, hb, rfl⟩ | ⟨c, b1, b2, k1, k2, rfl, hc, hb1, hb2, rfl⟩
      · rw [codeStmt_one hz]; show (1 : Int) ≤ 2; decide
      · rw [codeStmt_while]
        have := code_len f b k1 (m + 1) hb
        unfold codeWhile
        rw [List.length_cons, List.length_append, List.length_singleton]
        omega
      · rw [codeStmt_if]
        have h1 := code_len f b1 k1 (m + 1) hb1
        have h2 := code_len f b2 k2 (m + (codeBody f (m + 1) b1).length + 2) hb2
        have h3 := body_nn hb2
        unfold codeIf
        split
        · rw [List.length_cons]; omega
        · rw [List.length_cons, List.length_append, List.length_cons]; omega
    induction ss generalizing n m with
    | nil =>
      have h : (0 : Int) = n := by injection h
      show (0 : Int) ≤ _
      omega
    | cons s ss ih =>
      rw [List.map_cons, sumO_cons] at h
      cases q1 : cntStmt kind (cntBody kind f) s with
      | none => rw [q1] at h; cases h
      | some a =>
        cases q2 : sumO (ss.map (cntStmt kind (cntBody kind f))) with
        | none => rw [q1, q2] at h; cases h
        | some b =>
          rw [q1, q2] at h
          have h : a + b = n := by injection h
          have h1 := hst s a m q1
          have h2 := ih b (m + (codeStmt (codeBody f) m s).length) q2
          show ((codeStmt (codeBody f) m s ++ codeStmts (codeStmt (codeBody f)) (m + (codeStmt (codeBody f) m s).length) ss).length : Int) ≤ _
          rw [List.length_append]
          omega
/-! ### a list that grows while all else stays -/
def hid (p : Addr) (H : Hp) : Hp := fun a => if a = p then none else H a
theorem hid_at {p a : Addr} {H : Hp} {o : HO} (hn : a ≠ p) (h : H a = some o) : hid p H a = some o := by
  unfold hid; rw [if_neg hn]; exact h
theorem hid_out {p a : Addr} {H : Hp} {o : HO} (h : hid p H a = some o) : a ≠ p ∧ H a = some o := by
  unfold hid at h
  split at h
  · cases h
  · rename_i q; exact ⟨q, h⟩
theorem hid_same {p : Addr} {H : Hp} : Same (hid p H) H := fun a o h => (hid_out h).2
theorem hid_mono {p : Addr} {H H' : Hp} (e : Same H H') : Same (hid p H) (hid p H') := fun a o h => hid_at (hid_out h).1 (e a o (hid_out h).2)
theorem hid_upd {p : Addr} {H : Hp} {o : HO} : Same (hid p H) (hid p (upd H p o)) := fun a u h => hid_at (hid_out h).1 (by rw [upd_ne (hid_out h).1]; exact (hid_out h).2)
theorem dpAll_set {K : PySem.W.Frag} {H : Hp} : ∀ {vs : List V} {ds : List PyData} (j : Nat) {v : V} {d : PyData}, DpAll K H vs ds → Dp K H v d → DpAll K H (vs.set j v) (ds.set j d)
  | _, _, _, _, _, .nil, _ => .nil
  | _, _, 0, _, _, .cons h hr, hv => .cons hv hr
  | _, _, j + 1, _, _, .cons h hr, hv => .cons h (dpAll_set j hr hv)
structure At (K : PySem.W.Frag) (p : Addr) (H : Hp) (acc : List V) (es : List PyData) : Prop where
  at_ : H p = some (.lst acc)
  dp : DpAll K (hid p H) acc es
section
variable {K : PySem.W.Frag} {p : Addr} {H H1 : Hp} {acc : List V} {es : List PyData}
theorem At.len (h : At K p H acc es) : acc.length = es.length := dpAll_len h.dp
theorem At.ex (h : At K p H acc es) (e : Same H H1) : At K p H1 acc es := ⟨e _ _ h.at_, dpAll_mono (hid_mono e) h.dp⟩
theorem At.push (h : At K p H acc es) {v : V} {d : PyData} (hv : Dp K (hid p H) v d) : At K p (upd H p (.lst (acc ++ [v]))) (acc ++ [v]) (es ++ [d]) :=
  ⟨upd_same, dpAll_mono hid_upd (dpAll_append h.dp (.cons hv .nil))⟩
theorem At.set (h : At K p H acc es) (j : Nat) {v : V} {d : PyData} (hv : Dp K (hid p H) v d) : At K p (upd H p (.lst (acc.set j v))) (acc.set j v) (es.set j d) :=
  ⟨upd_same, dpAll_mono hid_upd (dpAll_set j h.dp hv)⟩
theorem At.new (h : At K p H acc es) {q : Addr} {ys : List V} {ds : List PyData} (hq : H q = none) (e : Same H H1) (h1 : H1 q = some (.tup ys)) (hd : DpAll K (hid p H1) ys ds) : Dp K (hid p H1) (.ref q) (.tuple ds) := by
  have hn : q ≠ p := fun z => by rw [z, h.at_] at hq; cases hq
  exact .tup (st_of (hid_at hn h1)) hd
end
theorem set_mid {α : Type} {x y : α} : ∀ {l r : List α}, (l ++ x :: r).set l.length y = l ++ y :: r
  | [], _ => rfl
  | a :: l, r => by
    show a :: (l ++ x :: r).set l.length y = a :: (l ++ y :: r)
    rw [set_mid]
section
variable {K : PySem.W.Frag} {σ : L2.St} {H : Hp} {ta tb te : TE} {D : Ends} {tz : TS}
theorem s_setU {l : Addr} {xs ys : List V} {j : Nat} (hl : H l = some (.lst xs)) (h : EvU te σ H ys) (ho : Ev ta σ H (.ref l)) (hi : Ev tb σ H (.int (j : Int))) (hj : j < xs.length) (k : ∀ p H1, H p = none → Ex H H1 → H1 p = some (.tup ys) → D.nx σ (upd H1 l (.lst (xs.set j (.ref p))))) :
    tAsg te (gSub ta tb rSetL) D σ H := h H (Ex.refl H) _ fun p H1 hp e1 hp1 => ho H1 e1 _ fun H2 e2 => hi H2 (e1.trans e2) _ fun H3 e3 =>
  ⟨l, xs, (j : Int), j, rfl, rfl, ((e1.trans e2).trans e3) l _ hl, ixN_nat hj, k p H3 hp ((e1.trans e2).trans e3) (e3 _ _ (e2 _ _ hp1))⟩
theorem q_setU {l : Addr} {xs ys : List V} {j : Nat} (hl : H l = some (.lst xs)) (h : EvU te σ H ys) (ho : Ev ta σ H (.ref l)) (hi : Ev tb σ H (.int (j : Int))) (hj : j < xs.length) (k : ∀ p H1, H p = none → Ex H H1 → H1 p = some (.tup ys) → tz D σ (upd H1 l (.lst (xs.set j (.ref p))))) :
    tSeq (tAsg te (gSub ta tb rSetL)) tz D σ H := s_setU (D := { D with nx := tz D }) hl h ho hi hj k
end
theorem nil_cases {f : Nat} {kind : Str} {b : PyData} {n : Int} (h : cntBody kind f b = some n) : ∃ ss, b = .tuple ss ∧ isNil b = decide (ss.length = 0) := by
  obtain ⟨ss, rfl⟩ := body_tup h
  refine ⟨ss, rfl, ?_⟩
  cases ss with
  | nil => rfl
  | cons a l => rw [decide_eq_false (by rw [List.length_cons]; omega)]; rfl
section
variable {K : PySem.W.Frag} {σ : L2.St} {H : Hp} {ta tb te t1 t2 : TE} {D : Ends} {tz : TS} {sp : Sp} {dvs : List V} {E : XK} {Q : VK} {x : V}
theorem el_cat {l : Addr} {xs ys : List V} (hl : H l = some (.lst xs)) (ha : Ev ta σ H (.ref l)) (hb : EvL tb σ H ys) (hz : xs.length + ys.length ≤ 100000) : EvL (tOp rCat ta tb) σ H (xs ++ ys) := fun H1 e Q q =>
  ha H1 e _ fun H2 e2 => hb H2 (e.trans e2) _ fun p H3 hp e3 hp3 => ⟨l, p, xs, ys, rfl, rfl, (e2.trans e3) l _ (e l _ hl), hp3, sz_of hz, fun p' hp' => q p' _ (fresh_back (e2.trans e3) hp') ((e2.trans e3).trans (Ex.new hp')) upd_same⟩
theorem c_callXL {ys : List V} (h1 : Ev t1 σ H x) (h2 : EvL t2 σ H ys) (k : ∀ p H1, H p = none → Ex H H1 → H1 p = some (.lst ys) → sp ([x, .ref p] ++ dvs) H1 Q E) : tCall sp dvs E (tCons t1 (tCons t2 tNil)) σ H Q :=
  h1 H (Ex.refl _) _ fun H1 e1 => h2 H1 e1 _ fun p H2 hp e2 hp2 => k p H2 (fresh_back e1 hp) (e1.trans e2) hp2
end
theorem hid_new {q r : Addr} {H H' : Hp} (hr : H r = none) (e : Same H H') : Same (hid q H) (hid r H') := fun a o ha => hid_at (ne_of_none (hid_same a o ha) hr) (e a o (hid_same a o ha))
theorem At.move {K : PySem.W.Frag} {q r : Addr} {H H' : Hp} {acc : List V} {es : List PyData} (h : At K q H acc es) (hr : H r = none) (e : Same H H') : DpAll K (hid r H') acc es := dpAll_mono (hid_new hr e) h.dp
theorem ev_opU {σ : L2.St} {H : Hp} {ta tb : TE} {r : R2} {x z : V} {ys : List V} (ha : Ev ta σ H x) (hb : EvU tb σ H ys) (k : ∀ p H1, Ex H H1 → H1 p = some (.tup ys) → RV r x (.ref p) H1 z) : Ev (tOp r ta tb) σ H z := fun H1 e Q q =>
  ha H1 e _ fun H2 e2 => hb H2 (e.trans e2) _ fun p H3 hp e3 hp3 => k p H3 (e.trans (e2.trans e3)) hp3 H3 (Ex.refl _) Q fun H4 e4 => q H4 ((e2.trans e3).trans e4)
theorem at3 {x y z u : V} {xs : List V} : atI (x :: y :: z :: u :: xs) 3 = some u := atI_nat (j := 3) rfl
theorem eqv_tup_nil (ss : List PyData) : PyData.eqv (.tuple ss) (.tuple []) = isNil (.tuple ss) := by
  cases ss with
  | nil => rw [PyData.eqv, PyData.eqvAll]; rfl
  | cons a l => rw [PyData.eqv, PyData.eqvAll]; rfl

end Nt

namespace Nt
open PySem PySem.Spec PyProof.Rows L2 Evl
/-! ### place_while, place_if, place_body -/
def spPB (K : PySem.W.Frag) (f : Nat) : Sp := fun vs H Q _ => ∃ (p : Addr) (acc : List V) (es : List PyData) (v : V) (b : PyData) (kind : Str) (n : Int), vs = [.ref p, v] ∧ At K p H acc es ∧ Dp K (hid p H) v b ∧ Sm b ∧ cntBody kind f b = some n ∧ (es.length : Int) + 2 * n ≤ 10000 ∧
  ∀ acc' H', Same (hid p H) (hid p H') → At K p H' acc' (es ++ codeBody f es.length b) → Q .non H'
def spPW (K : PySem.W.Frag) (f : Nat) : Sp := fun vs H Q _ => ∃ (p q : Addr) (acc : List V) (es : List PyData) (vc v : V) (c b : PyData) (kind : Str) (n : Int), vs = [.ref p, .ref q] ∧ At K p H acc es ∧ SqL K (hid p H) q [vc, v] ∧ Dp K (hid p H) vc c ∧ Dp K (hid p H) v b ∧ Sm b ∧ cntBody kind f b = some n ∧ (es.length : Int) + 2 * (1 + n) ≤ 10000 ∧
  ∀ acc' H', Same (hid p H) (hid p H') → At K p H' acc' (es ++ codeWhile (codeBody f) es.length c b) → Q .non H'
def spPI (K : PySem.W.Frag) (f : Nat) : Sp := fun vs H Q _ => ∃ (p q : Addr) (acc : List V) (es : List PyData) (vc v1 v2 : V) (c b1 b2 : PyData) (kind : Str) (n1 n2 : Int), vs = [.ref p, .ref q] ∧ At K p H acc es ∧ SqL K (hid p H) q [vc, v1, v2] ∧ Dp K (hid p H) vc c ∧ Dp K (hid p H) v1 b1 ∧ Dp K (hid p H) v2 b2 ∧ Sm b1 ∧ Sm b2 ∧ cntBody kind f b1 = some n1 ∧ cntBody kind f b2 = some n2 ∧ (es.length : Int) + 2 * (1 + n1 + n2) ≤ 10000 ∧
  ∀ acc' H', Same (hid p H) (hid p H') → At K p H' acc' (es ++ codeIf (codeBody f) es.length c b1 b2) → Q .non H'
section
variable {P : Program} {w : World} {K : PySem.W.Frag} {mg : Str → Option Value} {base : Heap}
theorem ok_place_while (T : Txt w K mg) (f k : Nat) (D_place_body : Def P w K mg base CX0 k "place_body" ["code", "body"] (spPB K f)) : Def P w K mg base CX0 (k + 1) "place_while" ["code", "parts"] (spPW K f) := by
  refine mkDef T.F_place_while T.g_place_while sc_place_while (fun _ _ _ _ _ _ us hl => match us, hl with | [_, _], _ => rfl) (fun vs H Q E h => ?_) (fun cdv A outer s H vs Q E hr h => ?_)
  · obtain ⟨p, q, acc, es, vc, v, c, b, kind, n, rfl, _⟩ := h; rfl
  · obtain ⟨p, q, acc, es, vc, v, c, b, kind, n, rfl, h0, hq, hc, hb, hs, hn, hsz, kk⟩ := h
    have hcl := code_len f b n (es.length + 1) hn
    have hn0 := body_nn hn
    have hal := h0.len
    refine ⟨_, (PSs.nox (pss_cons (ps_asg (pv 1) (pg_unl (n := 2) rfl (pgs_cons (pg_name (i := 2) sc_place_while.nd rfl (Or.inl rfl)) (pgs_cons (pg_name (i := 3) sc_place_while.nd rfl (Or.inl rfl)) pgs_nil))))
      (pss_cons (ps_set (i := 4) sc_place_while.nd rfl (Or.inl rfl) (pe_callB call_len_seq (by rfl) T.m_len boot_len (pa_cons (pv 0) pa_nil)))
      (pss_cons (ps_expr (pe_bm PySem.F.plainAttrs_list PySem.F.slot_list_append PySem.F.type_list_append mt_append (pv 0) (pa_cons (pe_tup pa_nil) pa_nil)))
      (pss_cons (ps_expr (pe_callD D_place_body (hr.mono (by omega)) rfl pass0 (pa_cons (pv 0) (pa_cons (pv 3) pa_nil))))
      (pss_cons (ps_expr (pe_bm PySem.F.plainAttrs_list PySem.F.slot_list_append PySem.F.type_list_append mt_append (pv 0) (pa_cons (pe_tup (pa_cons pe_str (pa_cons (pv 4) pa_nil))) pa_nil)))
      (pss_one (ps_asg (pe_tup (pa_cons pe_str (pa_cons (pv 2) (pa_cons (pe_callB call_len_seq (by rfl) T.m_len boot_len (pa_cons (pv 0) pa_nil)) pa_nil)))) (pg_sub (pv 0) (pv 4) set_list))))))))), ?_⟩
    refine ⟨_, rfl, q, _, rfl, ex_l hid_same hq, rfl, _, _, rfl, _, _, rfl, rfl, ?_⟩
    show tSeq _ _ _ [some (.ref p), some (.ref q), some vc, some v, none] H
    refine q_asg (ev_cb (ea_cons (ev_var rfl) ea_nil) (rc_lenL (sq_of h0.at_))) fun H1 e1 => ?_
    have h1 := h0.ex e1
    refine q_appU h1.at_ (ev_var rfl) (eu_tup ea_nil (by show 0 ≤ 100000; decide)) (by omega) fun p2 H2 hp2 e2 hp2' => ?_
    have h2 := (h1.ex e2).push (h1.new hp2 e2 hp2' .nil)
    have s2 : Same (hid p H) (hid p (upd H2 p (.lst (acc ++ [.ref p2])))) := (hid_mono (e1.trans e2)).trans hid_upd
    generalize upd H2 p (.lst (acc ++ [.ref p2])) = H3 at h2 s2
    refine c_call (ea_cons (ev_var rfl) (ea_cons (ev_var rfl) ea_nil)) fun H4 e4 => ?_
    have s4 := s2.trans (hid_mono e4)
    refine ⟨p, _, _, v, b, kind, n, rfl, h2.ex e4, dp_mono s4 hb, hs, hn, by rw [List.length_append, List.length_singleton]; omega, fun acc5 H5 s5 h5 => ?_⟩
    have el : (es ++ [PyData.tuple []]).length = es.length + 1 := by rw [List.length_append, List.length_singleton]
    rw [el] at h5
    have s05 := s4.trans s5
    have hal5 := h5.len
    rw [List.length_append, el] at hal5
    -- code.append(("jump", test))
    refine q_appU h5.at_ (ev_var rfl) (eu_tup (ea_cons ev_c (ea_cons (ev_var rfl) ea_nil)) (by show 2 ≤ 100000; decide)) (by omega) fun p6 H6 hp6 e6 hp6' => ?_
    have h6 := (h5.ex e6).push (h5.new (ds := [.str "jump", .int (acc.length : Int)]) hp6 e6 hp6' (.cons (.str _) (.cons (.int _) .nil)))
    have s6 : Same (hid p H) (hid p (upd H6 p (.lst (acc5 ++ [.ref p6])))) := s05.trans ((hid_mono e6).trans hid_upd)
    generalize upd H6 p (.lst (acc5 ++ [.ref p6])) = H7 at h6 s6
    -- code[test] = ("test", condition, len(code))
    refine s_setU (j := acc.length) h6.at_ (eu_tup (ea_cons ev_c (ea_cons (ev_var rfl) (ea_cons (ev_cb (ea_cons (ev_var rfl) ea_nil) (rc_lenL (sq_of h6.at_))) ea_nil))) (by show 3 ≤ 100000; decide)) (ev_var rfl) (ev_var rfl) (by rw [List.length_append, hal5]; omega) fun p8 H8 hp8 e8 hp8' => ?_
    have hdc := dp_mono (s6.trans (hid_mono e8)) hc
    have h8 := (h6.ex e8).set acc.length (h6.new (ds := [.str "test", c, .int ((acc5 ++ [V.ref p6]).length : Int)]) hp8 e8 hp8' (.cons (.str _) (.cons hdc (.cons (.int _) .nil))))
    refine kk ((acc5 ++ [V.ref p6]).set acc.length (V.ref p8)) _ (s6.trans ((hid_mono e8).trans hid_upd)) ?_
    have e9 : ((es ++ [PyData.tuple []] ++ codeBody f (es.length + 1) b ++ [PyData.tuple [.str "jump", .int (acc.length : Int)]]).set acc.length (.tuple [.str "test", c, .int ((acc5 ++ [V.ref p6]).length : Int)])) = es ++ codeWhile (codeBody f) es.length c b := by
      have e1 : es ++ [PyData.tuple []] ++ codeBody f (es.length + 1) b ++ [PyData.tuple [.str "jump", .int (acc.length : Int)]] = es ++ PyData.tuple [] :: (codeBody f (es.length + 1) b ++ [PyData.tuple [.str "jump", .int (acc.length : Int)]]) := by
        rw [List.append_assoc, List.append_assoc, List.singleton_append]
      rw [e1, hal, set_mid]
      unfold codeWhile tstD jmpD
      have e2 : ((acc5 ++ [V.ref p6]).length : Int) = ((es.length + (codeBody f (es.length + 1) b).length + 2 : Nat) : Int) := by rw [List.length_append, hal5, List.length_singleton]; omega
      rw [e2]
    rw [← e9]
    exact h8
theorem ok_place_if (T : Txt w K mg) (f k : Nat) (D_place_body : Def P w K mg base CX0 k "place_body" ["code", "body"] (spPB K f)) : Def P w K mg base CX0 (k + 1) "place_if" ["code", "parts"] (spPI K f) := by
  refine mkDef T.F_place_if T.g_place_if sc_place_if (fun _ _ _ _ _ _ us hl => match us, hl with | [_, _], _ => rfl) (fun vs H Q E h => ?_) (fun cdv A outer s H vs Q E hr h => ?_)
  · obtain ⟨p, q, acc, es, vc, v1, v2, c, b1, b2, kind, n1, n2, rfl, _⟩ := h; rfl
  · obtain ⟨p, q, acc, es, vc, v1, v2, c, b1, b2, kind, n1, n2, rfl, h0, hq, hc, hb1, hb2, hs1, hs2, hn1, hn2, hsz, kk⟩ := h
    have hcl1 := code_len f b1 n1 (es.length + 1) hn1
    have hcl2 := code_len f b2 n2 (es.length + (codeBody f (es.length + 1) b1).length + 2) hn2
    have hn10 := body_nn hn1
    have hn20 := body_nn hn2
    have hal := h0.len
    obtain ⟨ss, rfl, hnil⟩ := nil_cases hn2
    obtain ⟨a2, xs2, rfl, hx2, hds2⟩ := dpT hb2
    have hl2 := dpAll_len hds2
    refine ⟨_, (PSs.nox (pss_cons (ps_asg (pv 1) (pg_unl (n := 3) rfl (pgs_cons (pg_name (i := 2) sc_place_if.nd rfl (Or.inl rfl)) (pgs_cons (pg_name (i := 3) sc_place_if.nd rfl (Or.inl rfl)) (pgs_cons (pg_name (i := 4) sc_place_if.nd rfl (Or.inl rfl)) pgs_nil)))))
      (pss_cons (ps_set (i := 5) sc_place_if.nd rfl (Or.inl rfl) (pe_callB call_len_seq (by rfl) T.m_len boot_len (pa_cons (pv 0) pa_nil)))
      (pss_cons (ps_expr (pe_bm PySem.F.plainAttrs_list PySem.F.slot_list_append PySem.F.type_list_append mt_append (pv 0) (pa_cons (pe_tup pa_nil) pa_nil)))
      (pss_cons (ps_expr (pe_callD D_place_body (hr.mono (by omega)) rfl pass0 (pa_cons (pv 0) (pa_cons (pv 3) pa_nil))))
      (pss_cons (ps_set (i := 6) sc_place_if.nd rfl (Or.inl rfl) (pe_callB call_len_seq (by rfl) T.m_len boot_len (pa_cons (pv 0) pa_nil)))
      (pss_cons (ps_if (pt_cmpR op_gt (pe_callB call_len_seq (by rfl) T.m_len boot_len (pa_cons (pv 4) pa_nil)) pe_int (nomark _)) (pss_one (ps_expr (pe_bm PySem.F.plainAttrs_list PySem.F.slot_list_append PySem.F.type_list_append mt_append (pv 0) (pa_cons (pe_tup pa_nil) pa_nil)))) pss_nil)
      (pss_cons (ps_asg (pe_tup (pa_cons pe_str (pa_cons (pv 2) (pa_cons (pe_callB call_len_seq (by rfl) T.m_len boot_len (pa_cons (pv 0) pa_nil)) pa_nil)))) (pg_sub (pv 0) (pv 5) set_list))
      (pss_cons (ps_expr (pe_callD D_place_body (hr.mono (by omega)) rfl pass0 (pa_cons (pv 0) (pa_cons (pv 4) pa_nil))))
      (pss_one (ps_if (pt_cmpR op_gt (pe_callB call_len_seq (by rfl) T.m_len boot_len (pa_cons (pv 4) pa_nil)) pe_int (nomark _)) (pss_one (ps_asg (pe_tup (pa_cons pe_str (pa_cons (pe_callB call_len_seq (by rfl) T.m_len boot_len (pa_cons (pv 0) pa_nil)) pa_nil))) (pg_sub (pv 0) (pv 6) set_list))) pss_nil))))))))))), ?_⟩
    refine ⟨_, rfl, q, _, rfl, ex_l hid_same hq, rfl, _, _, rfl, _, _, rfl, _, _, rfl, rfl, ?_⟩
    show tSeq _ _ _ [some (.ref p), some (.ref q), some vc, some v1, some (.ref a2), none, none] H
    refine q_asg (ev_cb (ea_cons (ev_var rfl) ea_nil) (rc_lenL (sq_of h0.at_))) fun H1 e1 => ?_
    have h1 := h0.ex e1
    refine q_appU h1.at_ (ev_var rfl) (eu_tup ea_nil (by show 0 ≤ 100000; decide)) (by omega) fun p2 H2 hp2 e2 hp2' => ?_
    have h2 := (h1.ex e2).push (h1.new hp2 e2 hp2' .nil)
    have s2 : Same (hid p H) (hid p (upd H2 p (.lst (acc ++ [.ref p2])))) := (hid_mono (e1.trans e2)).trans hid_upd
    generalize upd H2 p (.lst (acc ++ [.ref p2])) = H3 at h2 s2
    refine c_call (ea_cons (ev_var rfl) (ea_cons (ev_var rfl) ea_nil)) fun H4 e4 => ?_
    have s4 := s2.trans (hid_mono e4)
    refine ⟨p, _, _, v1, b1, kind, n1, rfl, h2.ex e4, dp_mono s4 hb1, hs1, hn1, by rw [List.length_append, List.length_singleton]; omega, fun acc5 H5 s5 h5 => ?_⟩
    have el : (es ++ [PyData.tuple []]).length = es.length + 1 := by rw [List.length_append, List.length_singleton]
    rw [el] at h5
    have s05 := s4.trans s5
    have hal5 := h5.len
    rw [List.length_append, el] at hal5
    generalize hk1 : codeBody f (es.length + 1) b1 = k1 at *
    -- jump = len(code)
    refine q_asg (ev_cb (ea_cons (ev_var rfl) ea_nil) (rc_lenL (sq_of h5.at_))) fun H6 e6 => ?_
    have h6 := h5.ex e6
    have s06 := s05.trans (hid_mono e6)
    have hlen : ∀ H', Same (hid p H) (hid p H') → Ev (tCB (rLenS K) (tCons (tVar 4) tNil)) [some (.ref p), some (.ref q), some vc, some v1, some (.ref a2), some (.int (acc.length : Int)), some (.int (acc5.length : Int))] H' (.int (ss.length : Int)) := fun H' s' => by
      rw [← hl2]
      exact ev_cb (ea_cons (ev_var rfl) ea_nil) (rc_lenT (ex_t hid_same (ex_t s' hx2)))
    cases hss : decide (ss.length = 0) with
    | true =>
      have hs0 : ss.length = 0 := of_decide_eq_true hss
      rw [hss] at hnil
      have hss0 : ss = [] := List.eq_nil_of_length_eq_zero hs0
      refine q_when (b := false) (et_is (et_test (ev_op (hlen H6 s06) ev_c rv_gt)) (decide_eq_false (by omega))) (fun q => by cases q) fun _ H7 e7 => ?_
      have h7 := h6.ex e7
      refine q_setU (j := acc.length) h7.at_ (eu_tup (ea_cons ev_c (ea_cons (ev_var rfl) (ea_cons (ev_cb (ea_cons (ev_var rfl) ea_nil) (rc_lenL (sq_of h7.at_))) ea_nil))) (by show 3 ≤ 100000; decide)) (ev_var rfl) (ev_var rfl) (by rw [hal5]; omega) fun p8 H8 hp8 e8 hp8' => ?_
      have s08 := s06.trans (hid_mono (e7.trans e8))
      have hdc := dp_mono s08 hc
      have h8 := (h7.ex e8).set acc.length (h7.new (ds := [.str "test", c, .int (acc5.length : Int)]) hp8 e8 hp8' (.cons (.str _) (.cons hdc (.cons (.int _) .nil))))
      have s8 : Same (hid p H) (hid p (upd H8 p (.lst (acc5.set acc.length (.ref p8))))) := s08.trans hid_upd
      have e9 : ((es ++ [PyData.tuple []] ++ k1).set acc.length (.tuple [.str "test", c, .int (acc5.length : Int)])) = es ++ codeIf (codeBody f) es.length c b1 (.tuple ss) := by
        have e1 : es ++ [PyData.tuple []] ++ k1 = es ++ PyData.tuple [] :: k1 := by rw [List.append_assoc, List.singleton_append]
        rw [e1, hal, set_mid]
        unfold codeIf
        rw [if_pos hnil, hk1]
        unfold tstD
        have e2 : (acc5.length : Int) = ((es.length + k1.length + 1 : Nat) : Int) := by rw [hal5]; omega
        rw [e2]
      rw [e9] at h8
      generalize upd H8 p (.lst (acc5.set acc.length (.ref p8))) = H9 at h8 s8
      refine c_call (ea_cons (ev_var rfl) (ea_cons (ev_var rfl) ea_nil)) fun H10 e10 => ?_
      have h10 := h8.ex e10
      have s10 := s8.trans (hid_mono e10)
      have hl10 := h10.len
      have hl8 : (es ++ codeIf (codeBody f) es.length c b1 (.tuple ss)).length = es.length + k1.length + 1 := by
        rw [← e9, List.length_set, List.length_append, el]; omega
      refine ⟨p, _, _, .ref a2, .tuple ss, kind, n2, rfl, h10, dp_mono s10 hb2, hs2, hn2, by rw [hl8]; omega, fun acc11 H11 s11 h11 => ?_⟩
      rw [hss0, codeBody_nil, List.append_nil, ← hss0] at h11
      have s011 := s10.trans s11
      refine s_when (b := false) (et_is (et_test (ev_op (hlen H11 s011) ev_c rv_gt)) (decide_eq_false (by omega))) (fun q => by cases q) fun _ H12 e12 => kk _ _ (s011.trans (hid_mono e12)) (h11.ex e12)
    | false =>
      have hs0 : ¬ ss.length = 0 := of_decide_eq_false hss
      rw [hss] at hnil
      refine q_when (b := true) (et_is (et_test (ev_op (hlen H6 s06) ev_c rv_gt)) (decide_eq_true (by omega))) (fun _ H7 e7 => ?_) fun q => by cases q
      have h7 := h6.ex e7
      refine s_appU h7.at_ (ev_var rfl) (eu_tup ea_nil (by show 0 ≤ 100000; decide)) (by omega) fun p8 H8 hp8 e8 hp8' => ?_
      have h8 := (h7.ex e8).push (h7.new hp8 e8 hp8' .nil)
      have s8 : Same (hid p H) (hid p (upd H8 p (.lst (acc5 ++ [.ref p8])))) := s06.trans ((hid_mono (e7.trans e8)).trans hid_upd)
      generalize upd H8 p (.lst (acc5 ++ [.ref p8])) = H9 at h8 s8
      show tSeq _ _ _ _ H9
      refine q_setU (j := acc.length) h8.at_ (eu_tup (ea_cons ev_c (ea_cons (ev_var rfl) (ea_cons (ev_cb (ea_cons (ev_var rfl) ea_nil) (rc_lenL (sq_of h8.at_))) ea_nil))) (by show 3 ≤ 100000; decide)) (ev_var rfl) (ev_var rfl) (by rw [List.length_append, hal5]; omega) fun pA HA hpA eA hpA' => ?_
      have s0A := s8.trans (hid_mono eA)
      have hdc := dp_mono s0A hc
      have hA := (h8.ex eA).set acc.length (h8.new (ds := [.str "test", c, .int ((acc5 ++ [V.ref p8]).length : Int)]) hpA eA hpA' (.cons (.str _) (.cons hdc (.cons (.int _) .nil))))
      have sA : Same (hid p H) (hid p (upd HA p (.lst ((acc5 ++ [V.ref p8]).set acc.length (.ref pA))))) := s0A.trans hid_upd
      have e9 : ((es ++ [PyData.tuple []] ++ k1 ++ [PyData.tuple []]).set acc.length (.tuple [.str "test", c, .int ((acc5 ++ [V.ref p8]).length : Int)])) = es ++ tstD c (es.length + k1.length + 2) :: (k1 ++ [PyData.tuple []]) := by
        have e1 : es ++ [PyData.tuple []] ++ k1 ++ [PyData.tuple []] = es ++ PyData.tuple [] :: (k1 ++ [PyData.tuple []]) := by rw [List.append_assoc, List.append_assoc, List.singleton_append]
        rw [e1, hal, set_mid]
        unfold tstD
        have e2 : ((acc5 ++ [V.ref p8]).length : Int) = ((es.length + k1.length + 2 : Nat) : Int) := by rw [List.length_append, hal5, List.length_singleton]; omega
        rw [e2]
      rw [e9] at hA
      generalize upd HA p (.lst ((acc5 ++ [V.ref p8]).set acc.length (.ref pA))) = HB at hA sA
      refine c_call (ea_cons (ev_var rfl) (ea_cons (ev_var rfl) ea_nil)) fun H10 e10 => ?_
      have h10 := hA.ex e10
      have s10 := sA.trans (hid_mono e10)
      have hl8 : (es ++ tstD c (es.length + k1.length + 2) :: (k1 ++ [PyData.tuple []])).length = es.length + k1.length + 2 := by
        rw [List.length_append, List.length_cons, List.length_append, List.length_singleton]; omega
      refine ⟨p, _, _, .ref a2, .tuple ss, kind, n2, rfl, h10, dp_mono s10 hb2, hs2, hn2, by rw [hl8]; omega, fun acc11 H11 s11 h11 => ?_⟩
      rw [hl8] at h11
      have s011 := s10.trans s11
      have hl11 := h11.len
      rw [List.length_append, hl8] at hl11
      generalize hk2 : codeBody f (es.length + k1.length + 2) (.tuple ss) = k2 at *
      refine s_when (b := true) (et_is (et_test (ev_op (hlen H11 s011) ev_c rv_gt)) (decide_eq_true (by omega))) (fun _ H12 e12 => ?_) fun q => by cases q
      have h12 := h11.ex e12
      refine s_setU (j := acc5.length) h12.at_ (eu_tup (ea_cons ev_c (ea_cons (ev_cb (ea_cons (ev_var rfl) ea_nil) (rc_lenL (sq_of h12.at_))) ea_nil)) (by show 2 ≤ 100000; decide)) (ev_var rfl) (ev_var rfl) (by rw [hal5, hl11]; omega) fun pC HC hpC eC hpC' => ?_
      have hC := (h12.ex eC).set acc5.length (h12.new (ds := [.str "jump", .int (acc11.length : Int)]) hpC eC hpC' (.cons (.str _) (.cons (.int _) .nil)))
      refine kk (acc11.set acc5.length (V.ref pC)) _ (s011.trans ((hid_mono (e12.trans eC)).trans hid_upd)) ?_
      have eF : ((es ++ tstD c (es.length + k1.length + 2) :: (k1 ++ [PyData.tuple []]) ++ k2).set acc5.length (.tuple [.str "jump", .int (acc11.length : Int)])) = es ++ codeIf (codeBody f) es.length c b1 (.tuple ss) := by
        have e1 : es ++ tstD c (es.length + k1.length + 2) :: (k1 ++ [PyData.tuple []]) ++ k2 = (es ++ tstD c (es.length + k1.length + 2) :: k1) ++ PyData.tuple [] :: k2 := by
          rw [List.append_assoc, List.append_assoc, List.cons_append, List.cons_append, List.append_assoc, List.singleton_append]
        have e2 : acc5.length = (es ++ tstD c (es.length + k1.length + 2) :: k1).length := by rw [hal5, List.length_append, List.length_cons]; omega
        rw [e1, e2, set_mid]
        unfold codeIf
        rw [if_neg (by rw [hnil]; exact Bool.false_ne_true), hk1, hk2]
        have e3 : (acc11.length : Int) = ((es.length + k1.length + 2 + k2.length : Nat) : Int) := by rw [hl11]
        rw [e3, List.append_assoc, List.cons_append]
        rfl
      rw [← eF]
      exact hC
end

end Nt

namespace Nt
open PySem PySem.Spec PyProof.Rows L2 Evl
/-! ### place_body, assemble -/
theorem sumO_at {l : List (Option Int)} {n : Int} (h : sumO l = some n) (hnn : ∀ a, some a ∈ l → 0 ≤ a) {i : Nat} {o : Option Int} (hi : l[i]? = some o) : ∃ a m r, sumO (l.take i) = some a ∧ o = some m ∧ n = a + (m + r) ∧ 0 ≤ r := by
  have hlt : i < l.length := by
    rcases Nat.lt_or_ge i l.length with q | q
    · exact q
    · rw [List.getElem?_eq_none q] at hi; cases hi
  have e : l = l.take i ++ o :: l.drop (i + 1) := by
    have e1 := List.take_append_drop i l
    rw [List.drop_eq_getElem_cons hlt] at e1
    rw [List.getElem?_eq_getElem hlt] at hi
    cases hi
    exact e1.symm
  have h2 := h
  rw [e, sumO_append, sumO_cons] at h2
  cases q1 : sumO (l.take i) with
  | none => rw [q1] at h2; cases h2
  | some a =>
    cases o with
    | none => rw [q1] at h2; cases h2
    | some m =>
      cases q2 : sumO (l.drop (i + 1)) with
      | none => rw [q1, q2] at h2; cases h2
      | some r =>
        rw [q1, q2] at h2
        have h2 : a + (m + r) = n := by injection h2
        exact ⟨a, m, r, rfl, rfl, h2.symm, (sumO_nn q2 fun x hx => hnn x (List.mem_of_mem_drop hx)).1⟩
def blkTab (K : PySem.W.Frag) : List (Str × V) := [("if", .ref (He.ga K "place_if")), ("while", .ref (He.ga K "place_while"))]
theorem blk_is (K : PySem.W.Frag) (z : Str) : ((blkTab K).lookup z).isSome = isBlk z := by
  unfold blkTab isBlk
  rw [List.lookup_cons, List.lookup_cons, List.lookup_nil]
  cases (z == "if") <;> cases (z == "while") <;> rfl
theorem blk_if (K : PySem.W.Frag) : List.lookup ("if" : Str) (blkTab K) = some (V.ref (He.ga K "place_if")) := by
  unfold blkTab; rw [List.lookup_cons, beq_self_eq_true]
theorem blk_while (K : PySem.W.Frag) : List.lookup ("while" : Str) (blkTab K) = some (V.ref (He.ga K "place_while")) := by
  unfold blkTab
  rw [List.lookup_cons, List.lookup_cons, beq_self_eq_true, show (("while" : Str) == "if") = false by decide +kernel]
def PlA (K : PySem.W.Frag) (g : Option Nat) : Addr → Sp → Prop := fun f sp => ∃ n, g = some n ∧ ((f = He.ga K "place_if" ∧ sp = spPI K n) ∨ (f = He.ga K "place_while" ∧ sp = spPW K n))
def prevN : Nat → Option Nat
  | 0 => none
  | n + 1 => some n
theorem stmt_pos {kind : Str} {f : Nat} {s : PyData} {m : Int} (h : cntStmt kind (cntBody kind f) s = some m) : 1 ≤ m := (sd_stmt (by omega) (sd_body (kind := kind) f) h).1
section
variable {P : Program} {w : World} {K : PySem.W.Frag} {mg : Str → Option Value} {base : Heap}
theorem ok_place_body1 (T : Txt w K mg) (f k : Nat) (hA_place : ∀ a sp, PlA K (prevN f) a sp → Held P w K mg base k a sp) : Def P w K mg base CX0 (k + 1) "place_body" ["code", "body"] (spPB K f) := by
  refine mkDef T.F_place_body T.g_place_body sc_place_body (fun _ _ _ _ _ _ us hl => match us, hl with | [_, _], _ => rfl) (fun vs H Q E h => ?_) (fun cdv A outer s H vs Q E hr h => ?_)
  · obtain ⟨p, acc, es, v, b, kind, n, rfl, _⟩ := h; rfl
  · obtain ⟨p, acc, es, v, b, kind, n, rfl, h0, hb, hs, hn, hsz, kk⟩ := h
    obtain ⟨ss, rfl⟩ := body_tup hn
    obtain ⟨a, xs, rfl, hx, hds⟩ := dpT hb
    have hlx := dpAll_len hds
    have hcl := code_len f (.tuple ss) n es.length hn
    have hn0 := body_nn hn
    refine ⟨_, (PSs.nox (pss_one (ps_for PassesOwn.never rfl (pi_tup (pv 1)) (pg_name (i := 2) sc_place_body.nd rfl (Or.inl rfl)) (pss_cons (ps_asg (pv 2) (pg_star (n := 2) (i := 1) rfl (pgs_cons (pg_name (i := 3) sc_place_body.nd rfl (Or.inl rfl)) (pgs_star (pg_name (i := 4) sc_place_body.nd rfl (Or.inl rfl))))))
      (pss_one (ps_if (pt_cmpR (op_in_tab T.d_BLOCKS) (pv 3) (pe_gref rfl T.g_BLOCKS) (by rfl)) (pss_cons (ps_set (i := 5) sc_place_body.nd rfl (Or.inl rfl) (pe_ix (ix_tab T.d_BLOCKS) (pe_gref rfl T.g_BLOCKS) (pv 3) (fun _ _ => rfl)))
      (pss_one (ps_expr (pe_callH (i := 5) hA_place (hr.mono (by omega)) rfl (Or.inl rfl) (pa_cons (pv 0) (pa_cons (pv 4) pa_nil)))))) (pss_one (ps_expr (pe_bm PySem.F.plainAttrs_list PySem.F.slot_list_append PySem.F.type_list_append mt_append (pv 0) (pa_cons (pv 2) pa_nil)))))))))), ?_⟩
    refine s_forT (ev_var rfl) (ex_t hid_same hx) (fun i σ' H' => ∃ (acc' : List V) (o2 o3 o4 o5 : Option V), σ' = [some (.ref p), some (.ref a), o2, o3, o4, o5] ∧ Same (hid p H) (hid p H') ∧ At K p H' acc' (es ++ codeBody f es.length (.tuple (ss.take i)))) (fun H1 e1 => ?_) ?_ ?_ ?_
    · refine ⟨acc, none, none, none, none, rfl, hid_mono e1, ?_⟩
      rw [List.take_zero, codeBody_nil, List.append_nil]
      exact h0.ex e1
    · rintro i σ' H' hi ⟨acc', o2, o3, o4, o5, rfl, s1, h1⟩
      exact ex_t hid_same (ex_t s1 hx)
    · rintro i x σ' H1 hi ⟨acc1, o2, o3, o4, o5, rfl, s1, h1⟩
      obtain ⟨s0, hs0, hxs0⟩ := dpAll_get (dpAll_mono s1 hds) hi
      cases f with
      | zero =>
        cases ss with
        | nil => cases hs0
        | cons y ys => cases hn
      | succ g =>
        rw [cntBody_S] at hn
        rw [codeBody_S] at h1
        have hnn : ∀ a, some a ∈ ss.map (cntStmt kind (cntBody kind g)) → 0 ≤ a := fun a ha => by
          obtain ⟨y, _, e⟩ := List.mem_map.mp ha
          have := stmt_pos e
          omega
        obtain ⟨sa, m, r, hta, hm, hsum, hr0⟩ := sumO_at hn hnn (i := i) (o := cntStmt kind (cntBody kind g) s0) (by rw [List.getElem?_map, hs0]; rfl)
        rw [← List.map_take] at hta
        have hcl1 := code_len (g + 1) (.tuple (ss.take i)) sa es.length (kind := kind) (by rw [cntBody_S]; exact hta)
        rw [codeBody_S] at hcl1
        have hm1 := stmt_pos hm
        have htake : ss.take (i + 1) = ss.take i ++ [s0] := by
          have hlt : i < ss.length := by
            rcases Nat.lt_or_ge i ss.length with q | q
            · exact q
            · rw [List.getElem?_eq_none q] at hs0; cases hs0
          rw [List.getElem?_eq_getElem hlt] at hs0
          cases hs0
          exact (List.take_append_getElem hlt).symm
        have hsmS := hs.tupI.2 s0 (List.mem_of_getElem? hs0)
        have hgoal : ∀ acc' H' σ', (∃ o2 o3 o4 o5 : Option V, σ' = [some (.ref p), some (.ref a), o2, o3, o4, o5]) → Same (hid p H) (hid p H') → At K p H' acc' (es ++ codeStmts (codeStmt (codeBody g)) es.length (ss.take i) ++ codeStmt (codeBody g) (es ++ codeStmts (codeStmt (codeBody g)) es.length (ss.take i)).length s0) → ∃ (acc' : List V) (o2 o3 o4 o5 : Option V), σ' = [some (.ref p), some (.ref a), o2, o3, o4, o5] ∧ Same (hid p H) (hid p H') ∧ At K p H' acc' (es ++ codeBody (g + 1) es.length (.tuple (ss.take (i + 1)))) := by
          rintro acc' H' σ' ⟨o2, o3, o4, o5, rfl⟩ s' h'
          refine ⟨acc', o2, o3, o4, o5, rfl, s', ?_⟩
          rw [codeBody_S, htake, codeStmts_snoc]
          rw [List.append_assoc, List.length_append] at h'
          exact h'
        generalize hes : es ++ codeStmts (codeStmt (codeBody g)) es.length (ss.take i) = es1 at h1 hgoal
        have hes1 : (es1.length : Int) + 2 * m ≤ 10000 := by rw [← hes, List.length_append]; omega
        have hal1 := h1.len
        -- word, *parts = statement
        obtain ⟨z, ps, rfl⟩ : ∃ z ps, s0 = .tuple (.str z :: ps) := by
          rcases stmt_cases hm with ⟨z, ps, e, _⟩ | ⟨c, b, _, e, _⟩ | ⟨c, b1, b2, _, _, e, _⟩
          · exact ⟨z, ps, e⟩
          · exact ⟨_, _, e⟩
          · exact ⟨_, _, e⟩
        obtain ⟨bs, ys, rfl, hys, hdy⟩ := dpT hxs0
        cases hdy with
        | @cons y0 yr _ _ hy0 hyr =>
          cases dpS hy0
          have hyrl := dpAll_len hyr
          refine ⟨_, rfl, bs, _, rfl, ex_t hid_same hys, by show 2 ≤ (yr.length + 1) + 1; omega, by decide, fun q hq => ?_⟩
          have e1 : List.take (yr.length + 1 + 1 - 2) (List.drop 1 (V.str z :: yr)) = yr := by
            rw [List.drop_succ_cons, List.drop_zero, List.take_of_length_le (by omega)]
          have e2 : List.drop (yr.length + 1 + 1 - 2) (List.drop 1 (V.str z :: yr)) = [] := by
            rw [List.drop_succ_cons, List.drop_zero, List.drop_of_length_le (by omega)]
          show gCons (gName 3) (gCons (gName 4) gNil) ([V.str z] ++ [V.ref q] ++ List.drop (yr.length + 1 + 1 - 2) (List.drop 1 (V.str z :: yr))) _ (upd H1 q (.lst (List.take (yr.length + 1 + 1 - 2) (List.drop 1 (V.str z :: yr))))) _
          rw [e1, e2]
          refine ⟨_, _, rfl, _, _, rfl, rfl, ?_⟩
          have e3 : Ex H1 (upd H1 q (.lst yr)) := Ex.new hq
          have hqp : q ≠ p := fun c => by rw [c, h1.at_] at hq; cases hq
          have hQ : SqL K (hid p (upd H1 q (.lst yr))) q yr := sq_of (hid_at hqp upd_same)
          have h2 := h1.ex e3
          have s2 := s1.trans (hid_mono e3)
          have hyr2 := dpAll_mono (hid_mono (p := p) e3) hyr
          have hx2 := dp_mono (hid_mono (p := p) e3) hxs0
          generalize upd H1 q (.lst yr) = H2 at hQ h2 s2 hyr2 hx2
          refine s_if (b := isBlk z) (et_is (et_test (ev_op (ev_var rfl) ev_c rv_inTab)) (blk_is K z)) (fun hz H3 e4 => ?_) fun hz H3 e4 => ?_
          · have h3 := h2.ex e4
            have s3 := s2.trans (hid_mono e4)
            have hQ3 := ex_l (hid_mono (p := p) e4) hQ
            have hyr3 := dpAll_mono (hid_mono (p := p) e4) hyr2
            rcases stmt_cases hm with ⟨z', ps', e, hz', _⟩ | ⟨c, b, k1, e, hc, hb1, rfl⟩ | ⟨c, b1, b2, k1, k2, e, hc, hb1, hb2, rfl⟩
            · injection e with e; injection e with e _; injection e with e
              rw [← e, hz] at hz'; cases hz'
            · injection e with e; injection e with e e'; injection e with e
              subst e e'
              obtain ⟨vc, vb, rfl⟩ := len2 hyrl
              obtain ⟨_, _, e, hvc, hvb⟩ := dp2 hyr3
              cases e
              refine q_asg (ev_op ev_c (ev_var rfl) (rv_ixTab (blk_while K))) fun H4 e5 => ?_
              refine ⟨He.ga K "place_while", spPW K g, rfl, ⟨g, rfl, .inr ⟨rfl, rfl⟩⟩, ?_⟩
              refine ea_cons (σ := _) (ev_var rfl) (ea_cons (ev_var rfl) ea_nil) H4 (Ex.refl _) _ fun H5 e6 => ?_
              have e46 := e5.trans e6
              refine ⟨p, q, acc1, es1, vc, vb, c, b, kind, k1, rfl, h3.ex e46, ex_l (hid_mono e46) hQ3, dp_mono (hid_mono e46) hvc, dp_mono (hid_mono e46) hvb, hsmS.tupI.2 b (by simp), hb1, by omega, fun acc' H' s' h' => ?_⟩
              refine hgoal acc' H' _ ⟨_, _, _, _, rfl⟩ (s3.trans ((hid_mono e46).trans s')) ?_
              rw [codeStmt_while]; exact h'
            · injection e with e; injection e with e e'; injection e with e
              subst e e'
              obtain ⟨vc, v1, v2, rfl⟩ := len3 hyrl
              obtain ⟨_, _, _, e, hvc, hv1, hv2⟩ := dp3 hyr3
              cases e
              refine q_asg (ev_op ev_c (ev_var rfl) (rv_ixTab (blk_if K))) fun H4 e5 => ?_
              refine ⟨He.ga K "place_if", spPI K g, rfl, ⟨g, rfl, .inl ⟨rfl, rfl⟩⟩, ?_⟩
              refine ea_cons (σ := _) (ev_var rfl) (ea_cons (ev_var rfl) ea_nil) H4 (Ex.refl _) _ fun H5 e6 => ?_
              have e46 := e5.trans e6
              refine ⟨p, q, acc1, es1, vc, v1, v2, c, b1, b2, kind, k1, k2, rfl, h3.ex e46, ex_l (hid_mono e46) hQ3, dp_mono (hid_mono e46) hvc, dp_mono (hid_mono e46) hv1, dp_mono (hid_mono e46) hv2, hsmS.tupI.2 b1 (by simp), hsmS.tupI.2 b2 (by simp), hb1, hb2, by omega, fun acc' H' s' h' => ?_⟩
              refine hgoal acc' H' _ ⟨_, _, _, _, rfl⟩ (s3.trans ((hid_mono e46).trans s')) ?_
              rw [codeStmt_if]; exact h'
          · have h3 := h2.ex e4
            refine s_app h3.at_ (ev_var rfl) (ev_var rfl) (by omega) fun H4 e5 => ?_
            have h4 := (h3.ex e5).push (dp_mono (hid_mono (e4.trans e5)) hx2)
            refine hgoal (acc1 ++ [V.ref bs]) _ _ ⟨_, _, _, _, rfl⟩ (s2.trans ((hid_mono (e4.trans e5)).trans hid_upd)) ?_
            rw [codeStmt_one hz]
            exact h4
    · rintro σ' H' ⟨acc', o2, o3, o4, o5, rfl, s1, h1⟩
      refine kk acc' H' s1 ?_
      rw [hlx, List.take_length] at h1
      exact h1
theorem ok_place_body (T : Txt w K mg) : ∀ f : Nat, Def P w K mg base CX0 (1 + 2 * f) "place_body" ["code", "body"] (spPB K f)
  | 0 => ok_place_body1 T 0 0 (by rintro a sp ⟨n, h, _⟩; cases h)
  | f + 1 => (ok_place_body1 T (f + 1) (1 + 2 * f + 1) (by
      rintro a sp ⟨n, h, h2⟩
      cases h
      rcases h2 with ⟨rfl, rfl⟩ | ⟨rfl, rfl⟩
      · exact (ok_place_if T f (1 + 2 * f) (ok_place_body T f)).held T.g_place_if
      · exact (ok_place_while T f (1 + 2 * f) (ok_place_body T f)).held T.g_place_while)).mono (by omega)
/-- what assemble makes of a program -/
def asm : PyData → List PyData
  | .tuple [_, b] => codeBody 4 0 b
  | _ => []
def spAsm (K : PySem.W.Frag) : Sp := fun vs H Q E => ∃ v d, vs = [v] ∧ Dp K H v d ∧ Sm d ∧ (isProg d = true → ∀ p acc H', H p = none → Same H H' → At K p H' acc (asm d) → Q (.ref p) H') ∧ (isProg d = false → ∀ H', Same H H' → E (.ref (He.ga K "BadProgram")) none H')
theorem progK_none (d : PyData) : isProgK none d = isProg d := by unfold isProgK; exact Bool.and_true _
theorem fn_assemble (T : Txt w K mg) : ∃ fd, FunD K "assemble" "assemble" (defArgs s_assemble) (defBody s_assemble) (defScope s_assemble) [] [] (He.ga K "assemble") fd ∧ FnOk P w K mg base (L2.CX P w) 19 (He.ga K "assemble") fd ["program"] (spAsm K) := by
  have D_check_program := ok_check_program (P := P) (base := base) T
  have D_place_body := ok_place_body (P := P) (base := base) T 4
  obtain ⟨fd, F⟩ := T.F_assemble
  refine ⟨fd, F, F.ok sc_assemble (fun vs H Q E h => ?_) (fun cdv A outer s H vs Q E hr h => ?_)⟩
  · obtain ⟨v, d, rfl, _⟩ := h; rfl
  · obtain ⟨v, d, rfl, hd, hs, kq, ke⟩ := h
    refine ⟨_, (pss_cons (ps_expr (pe_callV D_check_program (hr.mono (by omega)) rfl (passes_call (takes_of rfl rfl rfl rfl) (fun _ _ _ _ h => h)) (pa_cons (pv 0) pa_nil)))
      (pss_cons (ps_set (i := 1) sc_assemble.nd rfl (Or.inl rfl) (pe_lst pa_nil))
      (pss_cons (ps_expr (pe_callD D_place_body (hr.mono (by omega)) rfl pass0 (pa_cons (pv 1) (pa_cons (pe_ix ix_tup (pv 0) pe_int (fun _ _ => rfl)) pa_nil))))
      (pss_one (ps_ret (pv 1)))))), ?_⟩
    refine c_call (ea_cons (ev_var rfl) ea_nil) fun H1 e1 => ?_
    refine ⟨v, d, none, rfl, dp_mono e1 hd, hs, fun hp H2 e2 => ?_, fun hp H2 e2 => ke (by rw [← progK_none]; exact hp) H2 (e1.trans e2)⟩
    rw [progK_none] at hp
    have kq := kq hp
    obtain ⟨z, body, n, rfl, hkz, hc, hn⟩ := isProg_inv hp
    obtain ⟨a, xs, rfl, hx, hds⟩ := dpT hd
    obtain ⟨x0, x1, rfl⟩ := len2 (dpAll_len hds)
    obtain ⟨_, _, e, h0, h1⟩ := dp2 hds
    cases e
    have e12 := e1.trans e2
    refine q_asgL (el_lst ea_nil (by show 0 ≤ 100000; decide)) fun p H3 hp3 e3 hp3' => ?_
    have hpH : H p = none := fresh_back e12 hp3
    have hA : At K p H3 [] [] := ⟨hp3', .nil⟩
    have e13 := e12.trans e3
    refine c_call (ea_cons (ev_var rfl) (ea_cons (ev_op (ev_var rfl) ev_c (rv_ixT (ex_t e13 hx) at1)) ea_nil)) fun H4 e4 => ?_
    have e14 := e13.trans e4
    have hidS : Same H (hid p H4) := fun b o hb => hid_at (fun q => by rw [q, hpH] at hb; cases hb) (e14 b o hb)
    have hn0 := body_nn hc
    refine ⟨p, [], [], x1, body, z, n, rfl, hA.ex e4, dp_mono hidS h1, hs.tupI.2 body (by simp), hc, by show (0 : Int) + 2 * n ≤ 10000; omega, fun acc' H5 s5 h5 => ?_⟩
    refine s_ret (ev_var rfl) fun H6 e6 => kq p acc' H6 hpH ((hidS.trans s5).trans (hid_same.trans e6)) (h5.ex e6)
theorem ok_assemble (T : Txt w K mg) : Def P w K mg base (L2.CX P w) 19 "assemble" ["program"] (spAsm K) := by
  obtain ⟨fd, F, G⟩ := fn_assemble (P := P) (base := base) T
  exact ⟨_, fd, T.g_assemble, F.kp, F.bindsN (fun _ _ _ _ _ _ us hl => match us, hl with | [_], _ => rfl), G⟩
end

end Nt

namespace Nt
open PySem PySem.Spec PyProof.Rows L2 Evl
/-! ### check_program and assemble, over the store -/
def toKd : Vl → Option (Option Str)
  | .non => some none
  | .str z => some (some z)
  | _ => none
open Classical in
noncomputable def m_check_program (φ : Nat) (args : List Vl) (S : Sto) : Out Vl := match args with
  | [x, k] => match toD 60 S x, toKd k with
    | some d, some ko => if Sm d then (if isProgK ko d = true then .ok .non S else .err 10 none S) else .bad
    | _, _ => .bad
  | _ => .bad
/-- data without lists as a value that is read -/
def ofD : PyData → Vl
  | .none => .non
  | .bool b => .bl b
  | .int i => .int i
  | .str s => .str s
  | .list _ => .non
  | .tuple xs => .ktp (ofDs xs)
  | .dict _ => .non
where ofDs : List PyData → List Vl
  | [] => []
  | x :: xs => ofD x :: ofDs xs
mutual
def noL : PyData → Bool
  | .list _ => false
  | .dict _ => false
  | .tuple xs => noLs xs
  | _ => true
def noLs : List PyData → Bool
  | [] => true
  | x :: xs => noL x && noLs xs
end
mutual
theorem ofD_rv {N : Nms} {K : PySem.W.Frag} {m : List Addr} {H : Hp} : ∀ {v : V} {d : PyData}, noL d = true → Dp K H v d → Vr N K m H (ofD d) v
  | _, _, _, .non => by rw [ofD]; exact .non
  | _, _, _, .bl b => by rw [ofD]; exact .bl b
  | _, _, _, .int i => by rw [ofD]; exact .int i
  | _, _, _, .str x => by rw [ofD]; exact .str x
  | _, _, e, .lst h a => by rw [noL] at e; cases e
  | _, _, e, .tup h a => by rw [noL] at e; rw [ofD]; exact .ktp h (ofDs_rv e a)
theorem ofDs_rv {N : Nms} {K : PySem.W.Frag} {m : List Addr} {H : Hp} : ∀ {vs : List V} {ds : List PyData}, noLs ds = true → DpAll K H vs ds → Vrs N K m H (ofD.ofDs ds) vs
  | _, _, _, .nil => by rw [ofD.ofDs]; exact .nil
  | _, _, e, .cons h a => by
    rw [noLs, Bool.and_eq_true] at e
    rw [ofD.ofDs]
    exact .cons (ofD_rv e.1 h) (ofDs_rv e.2 a)
end
theorem ofDs_map : ∀ ds : List PyData, ofD.ofDs ds = ds.map ofD
  | [] => by rw [ofD.ofDs]; rfl
  | d :: ds => by rw [ofD.ofDs, ofDs_map ds]; rfl
open Classical in
noncomputable def m_assemble (φ : Nat) (args : List Vl) (S : Sto) : Out Vl := match args with
  | [x] => match toD 60 S x with
    | some d => if Sm d then (if isProg d = true then (if noLs (asm d) = true then .ok (.ref S.length) (S ++ [.lst ((asm d).map ofD)]) else .bad) else .err 10 none S) else .bad
    | none => .bad
  | _ => .bad
section
variable {P : Program} {w : World} {K : PySem.W.Frag} {mg : Str → Option Value} {base : Heap}
theorem fk_check_program (T : Txt w K mg) (φ : Nat) : FnM NN P w K mg base (L2.CX P w) 18 (He.ga K "check_program") (FunD K "check_program" "check_program" (defArgs s_check_program) (defBody s_check_program) (defScope s_check_program) [] [(("kind" : Str), V.non)] (He.ga K "check_program")) ["thing", "kind"] (m_check_program φ) := by
  obtain ⟨fd, F, G⟩ := fn_check_program (P := P) (base := base) T
  refine ⟨fd, F, F.kp, G.imp fun vs H Q E h => ?_⟩
  obtain ⟨m, S, args, hl, s, r, h⟩ := h
  unfold m_check_program at h
  split at h
  · rename_i x k
    split at h
    · rename_i d ko hd hk
      split at h
      · rename_i hs
        obtain ⟨v, kv, rfl, rv, rk⟩ := r.two
        have ek : kv = optK ko := by
          cases k with
          | non => cases hk; cases rk; rfl
          | str z => cases hk; cases rk; rfl
          | _ => cases hk
        refine ⟨v, d, ko, by rw [ek], toD_dp s _ _ _ _ hd rv, hs, fun q H' e => ?_, fun q H' e => ?_⟩
        · rw [if_pos q] at h
          exact h.to (Ext.same e) (s.same e) .non
        · rw [if_neg (by rw [q]; exact Bool.false_ne_true)] at h
          exact h m H' none (Ext.same e) (s.same e) trivial
      · exact h.elim
    · exact h.elim
  · exact h.elim
theorem fk_assemble (T : Txt w K mg) (φ : Nat) : FnM NN P w K mg base (L2.CX P w) 19 (He.ga K "assemble") (FunD K "assemble" "assemble" (defArgs s_assemble) (defBody s_assemble) (defScope s_assemble) [] [] (He.ga K "assemble")) ["program"] (m_assemble φ) := by
  obtain ⟨fd, F, G⟩ := fn_assemble (P := P) (base := base) T
  refine ⟨fd, F, F.kp, G.imp fun vs H Q E h => ?_⟩
  obtain ⟨m, S, args, hl, s, r, h⟩ := h
  unfold m_assemble at h
  split at h
  · rename_i x
    split at h
    · rename_i d hd
      split at h
      · rename_i hs
        obtain ⟨v, rfl, rv⟩ := r.one
        refine ⟨v, d, rfl, toD_dp s _ _ _ _ hd rv, hs, fun q p acc H' hp e hA => ?_, fun q H' e => ?_⟩
        · rw [if_pos q] at h
          split at h
          · rename_i hn
            have ra : Vrs NN K m H' ((asm d).map ofD) acc := by
              rw [← ofDs_map]
              exact ofDs_rv hn (dpAll_mono hid_same hA.dp)
            have sr : SR NN K (m ++ [p]) (S ++ [.lst ((asm d).map ofD)]) H' := by
              have s' := s.same e
              have key := s.new (p := p) (o := .lst []) (v := .lst []) (H' := upd H p (.lst [])) (Same.new hp) hp upd_same (.lst .nil)
              refine ⟨by rw [List.length_append, List.length_append, s.len]; rfl, key.inj, fun i o ho => ?_⟩
              have ex : Ext K m H' (m ++ [p]) H' := ⟨fun i a hi => (Ext.app (K := K) (p := p) (Same.refl H)).pre i a hi, fun _ _ z => z, fun _ _ z => z, fun _ _ z => z⟩
              rcases Nat.lt_or_ge i S.length with z | z
              · rw [List.getElem?_append_left z] at ho
                obtain ⟨a, u, h1, h2, h3⟩ := s'.ob i o ho
                exact ⟨a, u, ex.pre _ _ h1, h2, h3.mono ex⟩
              · rw [List.getElem?_append_right z] at ho
                rcases Nat.eq_or_lt_of_le z with y | y
                · rw [← y, Nat.sub_self] at ho
                  cases ho
                  refine ⟨p, .lst acc, ?_, hA.at_, .lst (ra.mono ex)⟩
                  rw [List.getElem?_append_right (by rw [s.len]; omega), s.len, ← y, Nat.sub_self]
                  rfl
                · rw [List.getElem?_eq_none (by show 1 ≤ _; omega)] at ho
                  cases ho
            exact h.to (Ext.app e) sr s.ref_new
          · exact h.elim
        · rw [if_neg (by rw [q]; exact Bool.false_ne_true)] at h
          exact h m H' none (Ext.same e) (s.same e) trivial
      · exact h.elim
    · exact h.elim
  · exact h.elim
end

end Nt

namespace Nt
open PySem PySem.Spec PyProof.Rows L2 Evl
def tb_WORDS : List (Str × Vl) := [("teller", (.ktp [(.str "set"), (.str "add"), (.str "wait"), (.str "ask"), (.str "answer")])), ("collector", (.ktp [(.str "set"), (.str "add"), (.str "wait"), (.str "grow"), (.str "list")]))]
theorem tr_WORDS {w : World} {K : PySem.W.Frag} {mg : Str → Option Value} (T : Txt w K mg) : TR NN K tb_WORDS [("teller", .ref (tabAt "WORDS" "teller" K)), ("collector", .ref (tabAt "WORDS" "collector" K))] := (.cons (fun _ _ => (.ktp (T.t_WORDS_teller _) (.cons (.str _) (.cons (.str _) (.cons (.str _) (.cons (.str _) (.cons (.str _) .nil))))))) (.cons (fun _ _ => (.ktp (T.t_WORDS_collector _) (.cons (.str _) (.cons (.str _) (.cons (.str _) (.cons (.str _) (.cons (.str _) .nil))))))) .nil))
def tb_BODIES : List (Str × Vl) := [("if", (.int 2)), ("while", (.int 1))]
theorem tr_BODIES {w : World} {K : PySem.W.Frag} {mg : Str → Option Value} (T : Txt w K mg) : TR NN K tb_BODIES [("if", .int 2), ("while", .int 1)] := (.cons (fun _ _ => (.int _)) (.cons (fun _ _ => (.int _)) .nil))
def tb_CHECKS : List (Str × Vl) := [("set", (.fn 3)), ("add", (.fn 4)), ("wait", (.fn 5)), ("ask", (.fn 6)), ("answer", (.fn 7)), ("grow", (.fn 8)), ("list", (.fn 8))]
theorem tr_CHECKS {w : World} {K : PySem.W.Frag} {mg : Str → Option Value} (T : Txt w K mg) : TR NN K tb_CHECKS [("set", .ref (He.ga K "is_set")), ("add", .ref (He.ga K "is_add")), ("wait", .ref (He.ga K "is_wait")), ("ask", .ref (He.ga K "is_ask")), ("answer", .ref (He.ga K "is_answer")), ("grow", .ref (He.ga K "is_one_term")), ("list", .ref (He.ga K "is_one_term"))] := (.cons (fun _ _ => (.fn 3)) (.cons (fun _ _ => (.fn 4)) (.cons (fun _ _ => (.fn 5)) (.cons (fun _ _ => (.fn 6)) (.cons (fun _ _ => (.fn 7)) (.cons (fun _ _ => (.fn 8)) (.cons (fun _ _ => (.fn 8)) .nil)))))))
def tb_BLOCKS : List (Str × Vl) := [("if", (.fn 31)), ("while", (.fn 32))]
theorem tr_BLOCKS {w : World} {K : PySem.W.Frag} {mg : Str → Option Value} (T : Txt w K mg) : TR NN K tb_BLOCKS [("if", .ref (He.ga K "place_if")), ("while", .ref (He.ga K "place_while"))] := (.cons (fun _ _ => (.fn 31)) (.cons (fun _ _ => (.fn 32)) .nil))
def tb_ACTIONS : List (Str × Vl) := [("set", (.fn 35)), ("add", (.fn 36)), ("wait", (.fn 37)), ("ask", (.fn 38)), ("answer", (.fn 39)), ("grow", (.fn 40)), ("list", (.fn 41)), ("test", (.fn 42)), ("jump", (.fn 43))]
theorem tr_ACTIONS {w : World} {K : PySem.W.Frag} {mg : Str → Option Value} (T : Txt w K mg) : TR NN K tb_ACTIONS [("set", .ref (He.ga K "do_set")), ("add", .ref (He.ga K "do_add")), ("wait", .ref (He.ga K "do_wait")), ("ask", .ref (He.ga K "do_ask")), ("answer", .ref (He.ga K "do_answer")), ("grow", .ref (He.ga K "do_grow")), ("list", .ref (He.ga K "do_list")), ("test", .ref (He.ga K "do_test")), ("jump", .ref (He.ga K "do_jump"))] := (.cons (fun _ _ => (.fn 35)) (.cons (fun _ _ => (.fn 36)) (.cons (fun _ _ => (.fn 37)) (.cons (fun _ _ => (.fn 38)) (.cons (fun _ _ => (.fn 39)) (.cons (fun _ _ => (.fn 40)) (.cons (fun _ _ => (.fn 41)) (.cons (fun _ _ => (.fn 42)) (.cons (fun _ _ => (.fn 43)) .nil)))))))))

noncomputable def b__law_bag (φ : Nat) : ZS := (zSeq (zAsg (xC (.int 0)) (gmName 2))
    (zSeq (zIf (yCmp vLt (xVar 1) (xCB vLen (aCons (xVar 0) aNil))) (zSeq (zAsg (xCB vAbs (aCons (xOp vIx (xVar 0) (xVar 1)) aNil)) (gmName 2))
    zNil) zNil)
    (zSeq (zAsg (xOp vAdd (xC (.int 1)) (xOp vMod (xOp vAdd (xOp vAdd (xOp vAdd (xOp vMul (xOp vMod (xVar 2) (xC (.int 2147483647))) (xC (.int 48271))) (xOp vMul (xOp vMul (xC (.int 7919)) (xVar 1)) (xVar 1))) (xOp vMul (xC (.int 104729)) (xVar 1))) (xC (.int 97))) (xC (.int 2147483646)))) (gmName 3))
    (zSeq (zRet (xLst (aCons (xOp vMul (xVar 2) (xCB vInt (aCons (xOp vGe (xVar 2) (xOp vPow (xC (.int 10)) (xC (.int 18)))) aNil))) (aCons (xVar 3) aNil))))
    zNil))))
noncomputable def m__law_bag (φ : Nat) : List Vl → Sto → Out Vl := runB0 4 (b__law_bag φ)
theorem fk__law_bag {P : Program} {w : World} {K : PySem.W.Frag} {mg : Str → Option Value} {base : Heap} (T : Txt w K mg) (φ : Nat) : FnM NN P w K mg base CX0 1 (He.ga K "_law_bag") (FunD K "_law_bag" "_law_bag" (defArgs s__law_bag) (defBody s__law_bag) (defScope s__law_bag) [] [] (He.ga K "_law_bag")) ["_law_script", "_law_k"] (m__law_bag φ) :=
  fn_mk0 (k := 0) (b := b__law_bag φ) (L := N__law_bag) T.F__law_bag sc__law_bag fun cdv A outer s H E hr => SSs.nox (sss_cons (ss_set (i := 2) sc__law_bag.nd rfl (by first | exact Or.inl rfl | exact Or.inr rfl) se_int)
    (sss_cons (ss_if (st_cmp opm_lt (se_var (i := 1) rfl (by first | exact Or.inl rfl | exact Or.inr (Or.inl rfl) | exact Or.inr (Or.inr rfl))) (se_callB cm_len rfl T.m_len boot_len (sa_cons (se_var (i := 0) rfl (by first | exact Or.inl rfl | exact Or.inr (Or.inl rfl) | exact Or.inr (Or.inr rfl))) sa_nil)) (nomark _)) (sss_cons (ss_set (i := 2) sc__law_bag.nd rfl (by first | exact Or.inl rfl | exact Or.inr rfl) (se_callB cm_abs rfl T.m_abs boot_abs (sa_cons (se_ix (ixm hr.units) (se_var (i := 0) rfl (by first | exact Or.inl rfl | exact Or.inr (Or.inl rfl) | exact Or.inr (Or.inr rfl))) (se_var (i := 1) rfl (by first | exact Or.inl rfl | exact Or.inr (Or.inl rfl) | exact Or.inr (Or.inr rfl))) (fun _ _ => rfl)) sa_nil)))
    sss_nil) sss_nil)
    (sss_cons (ss_set (i := 3) sc__law_bag.nd rfl (by first | exact Or.inl rfl | exact Or.inr rfl) (se_op opm_add se_int (se_op opm_mod (se_op opm_add (se_op opm_add (se_op opm_add (se_op opm_mul (se_op opm_mod (se_var (i := 2) rfl (by first | exact Or.inl rfl | exact Or.inr (Or.inl rfl) | exact Or.inr (Or.inr rfl))) se_int) se_int) (se_op opm_mul (se_op opm_mul se_int (se_var (i := 1) rfl (by first | exact Or.inl rfl | exact Or.inr (Or.inl rfl) | exact Or.inr (Or.inr rfl)))) (se_var (i := 1) rfl (by first | exact Or.inl rfl | exact Or.inr (Or.inl rfl) | exact Or.inr (Or.inr rfl))))) (se_op opm_mul se_int (se_var (i := 1) rfl (by first | exact Or.inl rfl | exact Or.inr (Or.inl rfl) | exact Or.inr (Or.inr rfl))))) se_int) se_int)))
    (sss_cons (ss_ret (se_lst (sa_cons (se_op opm_mul (se_var (i := 2) rfl (by first | exact Or.inl rfl | exact Or.inr (Or.inl rfl) | exact Or.inr (Or.inr rfl))) (se_callTy cm_int rfl T.m_int boot_int (sa_cons (se_cmp opm_ge (se_var (i := 2) rfl (by first | exact Or.inl rfl | exact Or.inr (Or.inl rfl) | exact Or.inr (Or.inr rfl))) (se_op opm_pow se_int se_int) (nomark _)) sa_nil))) (sa_cons (se_var (i := 3) rfl (by first | exact Or.inl rfl | exact Or.inr (Or.inl rfl) | exact Or.inr (Or.inr rfl))) sa_nil))))
    sss_nil))))
noncomputable def b__law_draw (φ : Nat) : ZS := (zSeq (zIf (yCmp vGt (xOp vIx (xVar 0) (xC (.int 0))) (xC (.int 0))) (zSeq (zAsg (xOp vMod (xOp vIx (xVar 0) (xC (.int 0))) (xVar 1)) (gmName 2))
    (zSeq (zAsg (xOp vDiv (xOp vIx (xVar 0) (xC (.int 0))) (xVar 1)) (gmSub (xVar 0) (xC (.int 0)) vSetI))
    (zSeq (zRet (xVar 2))
    zNil))) zNil)
    (zSeq (zAsg (xOp vMod (xOp vMul (xOp vIx (xVar 0) (xC (.int 1))) (xC (.int 48271))) (xC (.int 2147483647))) (gmSub (xVar 0) (xC (.int 1)) vSetI))
    (zSeq (zRet (xOp vMod (xOp vDiv (xOp vMod (xOp vMul (xOp vIx (xVar 0) (xC (.int 1))) (xOp vAdd (xOp vDiv (xOp vIx (xVar 0) (xC (.int 1))) (xC (.int 65536))) (xC (.int 9)))) (xC (.int 2147483629))) (xC (.int 32))) (xVar 1)))
    zNil)))
noncomputable def m__law_draw (φ : Nat) : List Vl → Sto → Out Vl := runB0 3 (b__law_draw φ)
theorem fk__law_draw {P : Program} {w : World} {K : PySem.W.Frag} {mg : Str → Option Value} {base : Heap} (T : Txt w K mg) (φ : Nat) : FnM NN P w K mg base CX0 1 (He.ga K "_law_draw") (FunD K "_law_draw" "_law_draw" (defArgs s__law_draw) (defBody s__law_draw) (defScope s__law_draw) [] [] (He.ga K "_law_draw")) ["_law_bag_here", "_law_many"] (m__law_draw φ) :=
  fn_mk0 (k := 0) (b := b__law_draw φ) (L := N__law_draw) T.F__law_draw sc__law_draw fun cdv A outer s H E hr => SSs.nox (sss_cons (ss_if (st_cmp opm_gt (se_ix (ixm hr.units) (se_var (i := 0) rfl (by first | exact Or.inl rfl | exact Or.inr (Or.inl rfl) | exact Or.inr (Or.inr rfl))) se_int (fun _ _ => rfl)) se_int (nomark _)) (sss_cons (ss_set (i := 2) sc__law_draw.nd rfl (by first | exact Or.inl rfl | exact Or.inr rfl) (se_op opm_mod (se_ix (ixm hr.units) (se_var (i := 0) rfl (by first | exact Or.inl rfl | exact Or.inr (Or.inl rfl) | exact Or.inr (Or.inr rfl))) se_int (fun _ _ => rfl)) (se_var (i := 1) rfl (by first | exact Or.inl rfl | exact Or.inr (Or.inl rfl) | exact Or.inr (Or.inr rfl)))))
    (sss_cons (ss_asg (se_op opm_div (se_ix (ixm hr.units) (se_var (i := 0) rfl (by first | exact Or.inl rfl | exact Or.inr (Or.inl rfl) | exact Or.inr (Or.inr rfl))) se_int (fun _ _ => rfl)) (se_var (i := 1) rfl (by first | exact Or.inl rfl | exact Or.inr (Or.inl rfl) | exact Or.inr (Or.inr rfl)))) (sg_sub (setm hr.units) (se_var (i := 0) rfl (by first | exact Or.inl rfl | exact Or.inr (Or.inl rfl) | exact Or.inr (Or.inr rfl))) se_int))
    (sss_cons (ss_ret (se_var (i := 2) rfl (by first | exact Or.inl rfl | exact Or.inr (Or.inl rfl) | exact Or.inr (Or.inr rfl))))
    sss_nil))) sss_nil)
    (sss_cons (ss_asg (se_op opm_mod (se_op opm_mul (se_ix (ixm hr.units) (se_var (i := 0) rfl (by first | exact Or.inl rfl | exact Or.inr (Or.inl rfl) | exact Or.inr (Or.inr rfl))) se_int (fun _ _ => rfl)) se_int) se_int) (sg_sub (setm hr.units) (se_var (i := 0) rfl (by first | exact Or.inl rfl | exact Or.inr (Or.inl rfl) | exact Or.inr (Or.inr rfl))) se_int))
    (sss_cons (ss_ret (se_op opm_mod (se_op opm_div (se_op opm_mod (se_op opm_mul (se_ix (ixm hr.units) (se_var (i := 0) rfl (by first | exact Or.inl rfl | exact Or.inr (Or.inl rfl) | exact Or.inr (Or.inr rfl))) se_int (fun _ _ => rfl)) (se_op opm_add (se_op opm_div (se_ix (ixm hr.units) (se_var (i := 0) rfl (by first | exact Or.inl rfl | exact Or.inr (Or.inl rfl) | exact Or.inr (Or.inr rfl))) se_int (fun _ _ => rfl)) se_int) se_int)) se_int) se_int) (se_var (i := 1) rfl (by first | exact Or.inl rfl | exact Or.inr (Or.inl rfl) | exact Or.inr (Or.inr rfl)))))
    sss_nil)))
theorem bd__law_draw_2 {K : PySem.W.Frag} {f : Addr} : Bd NN K (FunD K "_law_draw" "_law_draw" (defArgs s__law_draw) (defBody s__law_draw) (defScope s__law_draw) [] [] f) ["_law_bag_here", "_law_many"] 2 [] (fun xs _ => xs) := bd_all (fun _ _ _ _ _ _ us hl => match us, hl with | [_, _], _ => rfl)
noncomputable def t1__law_large (φ : Nat)  : XT := (yCmp vLt (xVar 3) (xVar 1))
noncomputable def l1__law_large (φ : Nat)  : ZS := (zSeq (zAsg (xOp vAdd (xOp vMul (xVar 2) (xC (.int 1048576))) (xCall 2 2 (fun xs _ => xs) 0 (m__law_draw φ) (bArgs (aCons (xVar 0) (aCons (xC (.int 1048576)) aNil)) aNil))) (gmName 2))
    (zSeq (zAsg (xOp vMul (xVar 3) (xC (.int 1048576))) (gmName 3))
    zNil))
noncomputable def b__law_large (φ : Nat) : ZS := (zSeq (zAsg (xC (.int 0)) (gmName 2))
    (zSeq (zAsg (xC (.int 1)) (gmName 3))
    (zSeq (zWhile φ (t1__law_large φ) (l1__law_large φ))
    (zSeq (zRet (xOp vMod (xVar 2) (xVar 1)))
    zNil))))
noncomputable def m__law_large (φ : Nat) : List Vl → Sto → Out Vl := runB0 4 (b__law_large φ)
theorem fk__law_large {P : Program} {w : World} {K : PySem.W.Frag} {mg : Str → Option Value} {base : Heap} (T : Txt w K mg) (φ : Nat) : FnM NN P w K mg base CX0 2 (He.ga K "_law_large") (FunD K "_law_large" "_law_large" (defArgs s__law_large) (defBody s__law_large) (defScope s__law_large) [] [] (He.ga K "_law_large")) ["_law_bag_here", "_law_many"] (m__law_large φ) :=
  fn_mk0 (k := 1) (b := b__law_large φ) (L := N__law_large) T.F__law_large sc__law_large fun cdv A outer s H E hr => SSs.nox (sss_cons (ss_set (i := 2) sc__law_large.nd rfl (by first | exact Or.inl rfl | exact Or.inr rfl) se_int)
    (sss_cons (ss_set (i := 3) sc__law_large.nd rfl (by first | exact Or.inl rfl | exact Or.inr rfl) se_int)
    (sss_cons (ss_while φ PassesOwn.never (st_cmp opm_lt (se_var (i := 3) rfl (by first | exact Or.inl rfl | exact Or.inr (Or.inl rfl) | exact Or.inr (Or.inr rfl))) (se_var (i := 1) rfl (by first | exact Or.inl rfl | exact Or.inr (Or.inl rfl) | exact Or.inr (Or.inr rfl))) (nomark _)) (sss_cons (ss_set (i := 2) sc__law_large.nd rfl (by first | exact Or.inl rfl | exact Or.inr rfl) (se_op opm_add (se_op opm_mul (se_var (i := 2) rfl (by first | exact Or.inl rfl | exact Or.inr (Or.inl rfl) | exact Or.inr (Or.inr rfl))) se_int) (se_call (N := NN) (fk__law_draw (P := P) (base := base) T φ) bd__law_draw_2 (hr.mono (by first | decide | omega)) rfl T.g__law_draw pas0 (sb_cons (sa_cons (se_var (i := 0) rfl (by first | exact Or.inl rfl | exact Or.inr (Or.inl rfl) | exact Or.inr (Or.inr rfl))) (sa_cons se_int sa_nil)) sk_nil))))
    (sss_cons (ss_set (i := 3) sc__law_large.nd rfl (by first | exact Or.inl rfl | exact Or.inr rfl) (se_op opm_mul (se_var (i := 3) rfl (by first | exact Or.inl rfl | exact Or.inr (Or.inl rfl) | exact Or.inr (Or.inr rfl))) se_int))
    sss_nil)))
    (sss_cons (ss_ret (se_op opm_mod (se_var (i := 2) rfl (by first | exact Or.inl rfl | exact Or.inr (Or.inl rfl) | exact Or.inr (Or.inr rfl))) (se_var (i := 1) rfl (by first | exact Or.inl rfl | exact Or.inr (Or.inl rfl) | exact Or.inr (Or.inr rfl)))))
    sss_nil))))
theorem bd__law_large_2 {K : PySem.W.Frag} {f : Addr} : Bd NN K (FunD K "_law_large" "_law_large" (defArgs s__law_large) (defBody s__law_large) (defScope s__law_large) [] [] f) ["_law_bag_here", "_law_many"] 2 [] (fun xs _ => xs) := bd_all (fun _ _ _ _ _ _ us hl => match us, hl with | [_, _], _ => rfl)
noncomputable def b__law_steps (φ : Nat) : ZS := (zSeq (zRet (xOp vIx (xLst (aCons (xOp vAdd (xC (.int 1)) (xCall 2 2 (fun xs _ => xs) 0 (m__law_draw φ) (bArgs (aCons (xVar 0) (aCons (xC (.int 4)) aNil)) aNil))) (aCons (xOp vAdd (xC (.int 1)) (xCall 2 2 (fun xs _ => xs) 0 (m__law_large φ) (bArgs (aCons (xVar 0) (aCons (xOp vPow (xC (.int 10)) (xC (.int 30))) aNil)) aNil))) (aCons (xOp vSub (xOp vPow (xC (.int 10)) (xC (.int 30))) (xCall 2 2 (fun xs _ => xs) 0 (m__law_draw φ) (bArgs (aCons (xVar 0) (aCons (xC (.int 2)) aNil)) aNil))) aNil)))) (xOp vDiv (xCall 2 2 (fun xs _ => xs) 0 (m__law_draw φ) (bArgs (aCons (xVar 0) (aCons (xC (.int 8)) aNil)) aNil)) (xC (.int 3)))))
    zNil)
noncomputable def m__law_steps (φ : Nat) : List Vl → Sto → Out Vl := runB0 1 (b__law_steps φ)
theorem fk__law_steps {P : Program} {w : World} {K : PySem.W.Frag} {mg : Str → Option Value} {base : Heap} (T : Txt w K mg) (φ : Nat) : FnM NN P w K mg base CX0 3 (He.ga K "_law_steps") (FunD K "_law_steps" "_law_steps" (defArgs s__law_steps) (defBody s__law_steps) (defScope s__law_steps) [] [] (He.ga K "_law_steps")) ["_law_bag_here"] (m__law_steps φ) :=
  fn_mk0 (k := 2) (b := b__law_steps φ) (L := N__law_steps) T.F__law_steps sc__law_steps fun cdv A outer s H E hr => SSs.nox (sss_cons (ss_ret (se_ix (ixm hr.units) (se_lst (sa_cons (se_op opm_add se_int (se_call (N := NN) (fk__law_draw (P := P) (base := base) T φ) bd__law_draw_2 (hr.mono (by first | decide | omega)) rfl T.g__law_draw pas0 (sb_cons (sa_cons (se_var (i := 0) rfl (by first | exact Or.inl rfl | exact Or.inr (Or.inl rfl) | exact Or.inr (Or.inr rfl))) (sa_cons se_int sa_nil)) sk_nil))) (sa_cons (se_op opm_add se_int (se_call (N := NN) (fk__law_large (P := P) (base := base) T φ) bd__law_large_2 (hr.mono (by first | decide | omega)) rfl T.g__law_large pas0 (sb_cons (sa_cons (se_var (i := 0) rfl (by first | exact Or.inl rfl | exact Or.inr (Or.inl rfl) | exact Or.inr (Or.inr rfl))) (sa_cons (se_op opm_pow se_int se_int) sa_nil)) sk_nil))) (sa_cons (se_op opm_sub (se_op opm_pow se_int se_int) (se_call (N := NN) (fk__law_draw (P := P) (base := base) T φ) bd__law_draw_2 (hr.mono (by first | decide | omega)) rfl T.g__law_draw pas0 (sb_cons (sa_cons (se_var (i := 0) rfl (by first | exact Or.inl rfl | exact Or.inr (Or.inl rfl) | exact Or.inr (Or.inr rfl))) (sa_cons se_int sa_nil)) sk_nil))) sa_nil)))) (se_op opm_div (se_call (N := NN) (fk__law_draw (P := P) (base := base) T φ) bd__law_draw_2 (hr.mono (by first | decide | omega)) rfl T.g__law_draw pas0 (sb_cons (sa_cons (se_var (i := 0) rfl (by first | exact Or.inl rfl | exact Or.inr (Or.inl rfl) | exact Or.inr (Or.inr rfl))) (sa_cons se_int sa_nil)) sk_nil)) se_int) (fun _ _ => rfl)))
    sss_nil)
theorem bd__law_steps_1 {K : PySem.W.Frag} {f : Addr} : Bd NN K (FunD K "_law_steps" "_law_steps" (defArgs s__law_steps) (defBody s__law_steps) (defScope s__law_steps) [] [] f) ["_law_bag_here"] 1 [] (fun xs _ => xs) := bd_all (fun _ _ _ _ _ _ us hl => match us, hl with | [_], _ => rfl)
noncomputable def b__law_loop (φ : Nat) : ZS := (zSeq (zAsg (xCall 2 2 (fun xs _ => xs) 0 (m__law_draw φ) (bArgs (aCons (xVar 0) (aCons (xC (.int 16)) aNil)) aNil)) (gmName 1))
    (zSeq (zAsg (xOp vAdd (xLc (iRange1 (aCons (xCall 2 2 (fun xs _ => xs) 0 (m__law_draw φ) (bArgs (aCons (xVar 0) (aCons (xC (.int 4)) aNil)) aNil)) aNil)) (gmName 3) yYes (xTup (aCons (xC (.str "wait")) (aCons (xCall 1 1 (fun xs _ => xs) 0 (m__law_steps φ) (bArgs (aCons (xVar 0) aNil) aNil)) aNil))) [3]) (xLst (aCons (xTup (aCons (xC (.str "set")) (aCons (xC (.str "a")) (aCons (xVar 1) aNil)))) aNil))) (gmName 2))
    (zSeq (zRet (xTup (aCons (xVar 2) (aCons (xOp vAdd (xCB vSum (aCons (xLc (iAny (xSl (xVar 2) oNone (oSome (xUn vNeg (xC (.int 1)))))) (gmName 4) yYes (xOp vIx (xVar 4) (xC (.int 1))) [4]) aNil)) (xC (.int 1))) (aCons (xVar 1) aNil)))))
    zNil)))
noncomputable def m__law_loop (φ : Nat) : List Vl → Sto → Out Vl := runB0 5 (b__law_loop φ)
theorem fk__law_loop {P : Program} {w : World} {K : PySem.W.Frag} {mg : Str → Option Value} {base : Heap} (T : Txt w K mg) (φ : Nat) : FnM NN P w K mg base CX0 4 (He.ga K "_law_loop") (FunD K "_law_loop" "_law_loop" (defArgs s__law_loop) (defBody s__law_loop) (defScope s__law_loop) [] [] (He.ga K "_law_loop")) ["_law_bag_here"] (m__law_loop φ) :=
  fn_mk0 (k := 3) (b := b__law_loop φ) (L := N__law_loop) T.F__law_loop sc__law_loop fun cdv A outer s H E hr => SSs.nox (sss_cons (ss_set (i := 1) sc__law_loop.nd rfl (by first | exact Or.inl rfl | exact Or.inr rfl) (se_call (N := NN) (fk__law_draw (P := P) (base := base) T φ) bd__law_draw_2 (hr.mono (by first | decide | omega)) rfl T.g__law_draw pas0 (sb_cons (sa_cons (se_var (i := 0) rfl (by first | exact Or.inl rfl | exact Or.inr (Or.inl rfl) | exact Or.inr (Or.inr rfl))) (sa_cons se_int sa_nil)) sk_nil)))
    (sss_cons (ss_set (i := 2) sc__law_loop.nd rfl (by first | exact Or.inl rfl | exact Or.inr rfl) (se_op opm_add (se_lc (own := [("_law_turn", 3)]) rfl sc__law_loop.nd (si_range1 rfl T.m_range (sa_cons (se_call (N := NN) (fk__law_draw (P := P) (base := base) T φ) bd__law_draw_2 (hr.mono (by first | decide | omega)) rfl T.g__law_draw pas0 (sb_cons (sa_cons (se_var (i := 0) rfl (by first | exact Or.inl rfl | exact Or.inr (Or.inl rfl) | exact Or.inr (Or.inr rfl))) (sa_cons se_int sa_nil)) sk_nil)) sa_nil)) (blkOk_by (own := [("_law_turn", 3)]) (N := N__law_loop) (sc := defScope s__law_loop) (by decide +kernel)) (sgv_name (by decide)) (fun _ _ _ _ _ => (pg_name (i := 3) sc__law_loop.nd rfl (by first | exact Or.inl rfl | exact Or.inr rfl))) (fun _ _ _ _ _ => (se_tup (sa_cons se_str (sa_cons (se_call (N := NN) (fk__law_steps (P := P) (base := base) T φ) bd__law_steps_1 (hr.mono (by first | decide | omega)) rfl T.g__law_steps pas0 (sb_cons (sa_cons (se_var (i := 0) rfl (by first | exact Or.inl rfl | exact Or.inr (Or.inl rfl) | exact Or.inr (Or.inr rfl))) sa_nil) sk_nil)) sa_nil))))) (se_lst (sa_cons (se_tup (sa_cons se_str (sa_cons se_str (sa_cons (se_var (i := 1) rfl (by first | exact Or.inl rfl | exact Or.inr (Or.inl rfl) | exact Or.inr (Or.inr rfl))) sa_nil)))) sa_nil))))
    (sss_cons (ss_ret (se_tup (sa_cons (se_var (i := 2) rfl (by first | exact Or.inl rfl | exact Or.inr (Or.inl rfl) | exact Or.inr (Or.inr rfl))) (sa_cons (se_op opm_add (se_callB (cm_sum rfl) rfl T.m_sum boot_sum (sa_cons (se_lc (own := [("_law_part", 4)]) rfl sc__law_loop.nd (si_any (se_slice (se_var (i := 2) rfl (by first | exact Or.inl rfl | exact Or.inr (Or.inl rfl) | exact Or.inr (Or.inr rfl))) so_none (so_some (se_neg se_int)))) (blkOk_by (own := [("_law_part", 4)]) (N := N__law_loop) (sc := defScope s__law_loop) (by decide +kernel)) (sgv_name (by decide)) (fun _ _ _ _ _ => (pg_name (i := 4) sc__law_loop.nd rfl (by first | exact Or.inl rfl | exact Or.inr rfl))) (fun _ _ _ _ _ => (se_ix (ixm hr.units) (se_var (i := 4) rfl (by first | exact Or.inl rfl | exact Or.inr (Or.inl rfl) | exact Or.inr (Or.inr rfl))) se_int (fun _ _ => rfl)))) sa_nil)) se_int) (sa_cons (se_var (i := 1) rfl (by first | exact Or.inl rfl | exact Or.inr (Or.inl rfl) | exact Or.inr (Or.inr rfl))) sa_nil)))))
    sss_nil)))
noncomputable def b_is_integer (φ : Nat) : ZS := (zSeq (zRet (xAnd (xCB vIsi (aCons (xVar 0) (aCons (xC (.ty "int")) aNil))) (xNot (xCB vIsi (aCons (xVar 0) (aCons (xC (.ty "bool")) aNil))))))
    zNil)
noncomputable def m_is_integer (φ : Nat) : List Vl → Sto → Out Vl := runB0 1 (b_is_integer φ)
theorem fk_is_integer {P : Program} {w : World} {K : PySem.W.Frag} {mg : Str → Option Value} {base : Heap} (T : Txt w K mg) (φ : Nat) : FnM NN P w K mg base CX0 1 (He.ga K "is_integer") (FunD K "is_integer" "is_integer" (defArgs s_is_integer) (defBody s_is_integer) (defScope s_is_integer) [] [] (He.ga K "is_integer")) ["thing"] (m_is_integer φ) :=
  fn_mk0 (k := 0) (b := b_is_integer φ) (L := N_is_integer) T.F_is_integer sc_is_integer fun cdv A outer s H E hr => SSs.nox (sss_cons (ss_ret (se_and (se_callB cm_isi rfl T.m_isinstance boot_isinstance (sa_cons (se_var (i := 0) rfl (by first | exact Or.inl rfl | exact Or.inr (Or.inl rfl) | exact Or.inr (Or.inr rfl))) (sa_cons (se_bltn rfl T.m_int boot_int) sa_nil))) (se_one (se_not (se_callB cm_isi rfl T.m_isinstance boot_isinstance (sa_cons (se_var (i := 0) rfl (by first | exact Or.inl rfl | exact Or.inr (Or.inl rfl) | exact Or.inr (Or.inr rfl))) (sa_cons (se_bltn rfl T.m_bool boot_bool) sa_nil)))))))
    sss_nil)
noncomputable def b_Walk___init__ (φ : Nat) : ZS := (zSeq (zAsg (xVar 1) (gmFld 10 [33] (xVar 0)))
    (zSeq (zAsg (xVar 2) (gmFld 11 [33] (xVar 0)))
    (zSeq (zAsg (xDc (iAny (xVar 3)) (gmName 4) yYes (xVar 4) (xC (.bl true)) [4]) (gmFld 12 [33] (xVar 0)))
    (zSeq (zAsg3 (xC (.int 0)) (gmFld 1 [33] (xVar 0)) (gmFld 13 [33] (xVar 0)) (gmFld 9 [33] (xVar 0)))
    (zSeq (zAsg (xDisp (pCons (xC (.str "a")) (xC (.int 0)) (pCons (xC (.str "b")) (xC (.int 0)) pNil))) (gmFld 14 [33] (xVar 0)))
    (zSeq (zAsg (xC .non) (gmFld 8 [33] (xVar 0)))
    (zSeq (zAsg xDk (gmFld 15 [33] (xVar 0)))
    (zSeq (zAsg (xLst aNil) (gmFld 16 [33] (xVar 0)))
    zNil))))))))
noncomputable def m_Walk___init__ (φ : Nat) : List Vl → Sto → Out Vl := runB0 5 (b_Walk___init__ φ)
theorem fk_Walk___init__ {P : Program} {w : World} {K : PySem.W.Frag} {mg : Str → Option Value} {base : Heap} (T : Txt w K mg) (φ : Nat) : FnM NN P w K mg base CX0 1 (He.ma K (He.ga K "Walk") "__init__") (FunD K "__init__" "Walk.__init__" (defArgs s_Walk___init__) (defBody s_Walk___init__) (defScope s_Walk___init__) [] [] (He.ma K (He.ga K "Walk") "__init__")) ["self", "code", "position", "members"] (m_Walk___init__ φ) :=
  fn_mk0 (k := 0) (b := b_Walk___init__ φ) (L := N_Walk___init__) T.F_Walk___init__ sc_Walk___init__ fun cdv A outer s H E hr => SSs.nox (sss_cons (ss_fld (N := NN) 10 (.cons T.cl_Walk T.na_Walk_code .nil) (se_var (i := 0) rfl (by first | exact Or.inl rfl | exact Or.inr (Or.inl rfl) | exact Or.inr (Or.inr rfl))) (se_var (i := 1) rfl (by first | exact Or.inl rfl | exact Or.inr (Or.inl rfl) | exact Or.inr (Or.inr rfl))))
    (sss_cons (ss_fld (N := NN) 11 (.cons T.cl_Walk T.na_Walk_position .nil) (se_var (i := 0) rfl (by first | exact Or.inl rfl | exact Or.inr (Or.inl rfl) | exact Or.inr (Or.inr rfl))) (se_var (i := 2) rfl (by first | exact Or.inl rfl | exact Or.inr (Or.inl rfl) | exact Or.inr (Or.inr rfl))))
    (sss_cons (ss_fld (N := NN) 12 (.cons T.cl_Walk T.na_Walk_known .nil) (se_var (i := 0) rfl (by first | exact Or.inl rfl | exact Or.inr (Or.inl rfl) | exact Or.inr (Or.inr rfl))) (se_dc (own := [("member", 4)]) rfl sc_Walk___init__.nd (si_any (se_var (i := 3) rfl (by first | exact Or.inl rfl | exact Or.inr (Or.inl rfl) | exact Or.inr (Or.inr rfl)))) (blkOk_by (own := [("member", 4)]) (N := N_Walk___init__) (sc := defScope s_Walk___init__) (by decide +kernel)) (sgv_name (by decide)) (fun _ _ _ _ _ => (pg_name (i := 4) sc_Walk___init__.nd rfl (by first | exact Or.inl rfl | exact Or.inr rfl))) (fun _ _ _ _ _ => (se_var (i := 4) rfl (by first | exact Or.inl rfl | exact Or.inr (Or.inl rfl) | exact Or.inr (Or.inr rfl)))) (fun _ _ _ _ _ => se_bl)))
    (sss_cons (ss_asg3 se_int (sg_fld (N := NN) 1 (.cons T.cl_Walk T.na_Walk_index .nil) (se_var (i := 0) rfl (by first | exact Or.inl rfl | exact Or.inr (Or.inl rfl) | exact Or.inr (Or.inr rfl)))) (sg_fld (N := NN) 13 (.cons T.cl_Walk T.na_Walk_steps .nil) (se_var (i := 0) rfl (by first | exact Or.inl rfl | exact Or.inr (Or.inl rfl) | exact Or.inr (Or.inr rfl)))) (sg_fld (N := NN) 9 (.cons T.cl_Walk T.na_Walk_counter .nil) (se_var (i := 0) rfl (by first | exact Or.inl rfl | exact Or.inr (Or.inl rfl) | exact Or.inr (Or.inr rfl)))))
    (sss_cons (ss_fld (N := NN) 14 (.cons T.cl_Walk T.na_Walk_variables .nil) (se_var (i := 0) rfl (by first | exact Or.inl rfl | exact Or.inr (Or.inl rfl) | exact Or.inr (Or.inr rfl))) (se_disp (sp_cons se_str se_int (sp_cons se_str se_int sp_nil))))
    (sss_cons (ss_fld (N := NN) 8 (.cons T.cl_Walk T.na_Walk_replied .nil) (se_var (i := 0) rfl (by first | exact Or.inl rfl | exact Or.inr (Or.inl rfl) | exact Or.inr (Or.inr rfl))) se_non)
    (sss_cons (ss_fld (N := NN) 15 (.cons T.cl_Walk T.na_Walk_requested .nil) (se_var (i := 0) rfl (by first | exact Or.inl rfl | exact Or.inr (Or.inl rfl) | exact Or.inr (Or.inr rfl))) se_dk)
    (sss_cons (ss_fld (N := NN) 16 (.cons T.cl_Walk T.na_Walk_listed .nil) (se_var (i := 0) rfl (by first | exact Or.inl rfl | exact Or.inr (Or.inl rfl) | exact Or.inr (Or.inr rfl))) (se_lst sa_nil))
    sss_nil))))))))
noncomputable def b_Walk_is_over (φ : Nat) : ZS := (zSeq (zRet (xOr (xOp vIsNot (xFld 8 [33] (xVar 0)) (xC .non)) (xOp vEq (xFld 1 [33] (xVar 0)) (xCB vLen (aCons (xFld 10 [33] (xVar 0)) aNil)))))
    zNil)
noncomputable def m_Walk_is_over (φ : Nat) : List Vl → Sto → Out Vl := runB0 1 (b_Walk_is_over φ)
theorem fk_Walk_is_over {P : Program} {w : World} {K : PySem.W.Frag} {mg : Str → Option Value} {base : Heap} (T : Txt w K mg) (φ : Nat) : FnM NN P w K mg base CX0 1 (He.ma K (He.ga K "Walk") "is_over") (FunD K "is_over" "Walk.is_over" (defArgs s_Walk_is_over) (defBody s_Walk_is_over) (defScope s_Walk_is_over) [] [] (He.ma K (He.ga K "Walk") "is_over")) ["self"] (m_Walk_is_over φ) :=
  fn_mk0 (k := 0) (b := b_Walk_is_over φ) (L := N_Walk_is_over) T.F_Walk_is_over sc_Walk_is_over fun cdv A outer s H E hr => SSs.nox (sss_cons (ss_ret (se_or (se_cmp opm_isnot (se_fld (N := NN) 8 (.cons T.cl_Walk T.na_Walk_replied .nil) (se_var (i := 0) rfl (by first | exact Or.inl rfl | exact Or.inr (Or.inl rfl) | exact Or.inr (Or.inr rfl)))) se_non (nomark _)) (se_one (se_cmp (opm_eq hr.units) (se_fld (N := NN) 1 (.cons T.cl_Walk T.na_Walk_index .nil) (se_var (i := 0) rfl (by first | exact Or.inl rfl | exact Or.inr (Or.inl rfl) | exact Or.inr (Or.inr rfl)))) (se_callB cm_len rfl T.m_len boot_len (sa_cons (se_fld (N := NN) 10 (.cons T.cl_Walk T.na_Walk_code .nil) (se_var (i := 0) rfl (by first | exact Or.inl rfl | exact Or.inr (Or.inl rfl) | exact Or.inr (Or.inr rfl)))) sa_nil)) (nomark _)))))
    sss_nil)
noncomputable def b_Walk_state (φ : Nat) : ZS := (zSeq (zRet (xTup (aCons (xFld 1 [33] (xVar 0)) (aCons (xOp vIx (xFld 14 [33] (xVar 0)) (xC (.str "a"))) (aCons (xOp vIx (xFld 14 [33] (xVar 0)) (xC (.str "b"))) aNil)))))
    zNil)
noncomputable def m_Walk_state (φ : Nat) : List Vl → Sto → Out Vl := runB0 1 (b_Walk_state φ)
theorem fk_Walk_state {P : Program} {w : World} {K : PySem.W.Frag} {mg : Str → Option Value} {base : Heap} (T : Txt w K mg) (φ : Nat) : FnM NN P w K mg base CX0 1 (He.ma K (He.ga K "Walk") "state") (FunD K "state" "Walk.state" (defArgs s_Walk_state) (defBody s_Walk_state) (defScope s_Walk_state) [] [] (He.ma K (He.ga K "Walk") "state")) ["self"] (m_Walk_state φ) :=
  fn_mk0 (k := 0) (b := b_Walk_state φ) (L := N_Walk_state) T.F_Walk_state sc_Walk_state fun cdv A outer s H E hr => SSs.nox (sss_cons (ss_ret (se_tup (sa_cons (se_fld (N := NN) 1 (.cons T.cl_Walk T.na_Walk_index .nil) (se_var (i := 0) rfl (by first | exact Or.inl rfl | exact Or.inr (Or.inl rfl) | exact Or.inr (Or.inr rfl)))) (sa_cons (se_ix (ixm hr.units) (se_fld (N := NN) 14 (.cons T.cl_Walk T.na_Walk_variables .nil) (se_var (i := 0) rfl (by first | exact Or.inl rfl | exact Or.inr (Or.inl rfl) | exact Or.inr (Or.inr rfl)))) se_str (fun _ _ => rfl)) (sa_cons (se_ix (ixm hr.units) (se_fld (N := NN) 14 (.cons T.cl_Walk T.na_Walk_variables .nil) (se_var (i := 0) rfl (by first | exact Or.inl rfl | exact Or.inr (Or.inl rfl) | exact Or.inr (Or.inr rfl)))) se_str (fun _ _ => rfl)) sa_nil)))))
    sss_nil)
noncomputable def b_Walk_next_cost (φ : Nat) : ZS := (zSeq (zAsg (xOp vIx (xFld 10 [33] (xVar 0)) (xFld 1 [33] (xVar 0))) (gmStar1 (gmName 1) (gmName 2)))
    (zSeq (zRet (xIf (yCmp vEq (xVar 1) (xC (.str "wait"))) (xOp vIx (xVar 2) (xC (.int 0))) (xC (.int 1))))
    zNil))
noncomputable def m_Walk_next_cost (φ : Nat) : List Vl → Sto → Out Vl := runB0 3 (b_Walk_next_cost φ)
theorem fk_Walk_next_cost {P : Program} {w : World} {K : PySem.W.Frag} {mg : Str → Option Value} {base : Heap} (T : Txt w K mg) (φ : Nat) : FnM NN P w K mg base CX0 1 (He.ma K (He.ga K "Walk") "next_cost") (FunD K "next_cost" "Walk.next_cost" (defArgs s_Walk_next_cost) (defBody s_Walk_next_cost) (defScope s_Walk_next_cost) [] [] (He.ma K (He.ga K "Walk") "next_cost")) ["self"] (m_Walk_next_cost φ) :=
  fn_mk0 (k := 0) (b := b_Walk_next_cost φ) (L := N_Walk_next_cost) T.F_Walk_next_cost sc_Walk_next_cost fun cdv A outer s H E hr => SSs.nox (sss_cons (ss_asg (se_ix (ixm hr.units) (se_fld (N := NN) 10 (.cons T.cl_Walk T.na_Walk_code .nil) (se_var (i := 0) rfl (by first | exact Or.inl rfl | exact Or.inr (Or.inl rfl) | exact Or.inr (Or.inr rfl)))) (se_fld (N := NN) 1 (.cons T.cl_Walk T.na_Walk_index .nil) (se_var (i := 0) rfl (by first | exact Or.inl rfl | exact Or.inr (Or.inl rfl) | exact Or.inr (Or.inr rfl)))) (fun _ _ => rfl)) (sg_star1 rfl (sg_name (i := 1) sc_Walk_next_cost.nd rfl (by first | exact Or.inl rfl | exact Or.inr rfl)) (sg_name (i := 2) sc_Walk_next_cost.nd rfl (by first | exact Or.inl rfl | exact Or.inr rfl))))
    (sss_cons (ss_ret (se_if (st_cmp (opm_eq hr.units) (se_var (i := 1) rfl (by first | exact Or.inl rfl | exact Or.inr (Or.inl rfl) | exact Or.inr (Or.inr rfl))) se_str (nomark _)) (se_ix (ixm hr.units) (se_var (i := 2) rfl (by first | exact Or.inl rfl | exact Or.inr (Or.inl rfl) | exact Or.inr (Or.inr rfl))) se_int (fun _ _ => rfl)) se_int))
    sss_nil))
noncomputable def b_do_set (φ : Nat) : ZS := (zSeq (zAsg (xVar 1) (gmTup 2 (gmsCons (gmName 2) (gmsCons (gmName 3) gmsNil))))
    (zSeq (zAsg (xVar 3) (gmSub (xFld 14 [33] (xVar 0)) (xVar 2) vSetI))
    zNil))
noncomputable def m_do_set (φ : Nat) : List Vl → Sto → Out Vl := runB0 4 (b_do_set φ)
theorem fk_do_set {P : Program} {w : World} {K : PySem.W.Frag} {mg : Str → Option Value} {base : Heap} (T : Txt w K mg) (φ : Nat) : FnM NN P w K mg base CX0 1 (He.ga K "do_set") (FunD K "do_set" "do_set" (defArgs s_do_set) (defBody s_do_set) (defScope s_do_set) [] [] (He.ga K "do_set")) ["walk", "parts"] (m_do_set φ) :=
  fn_mk0 (k := 0) (b := b_do_set φ) (L := N_do_set) T.F_do_set sc_do_set fun cdv A outer s H E hr => SSs.nox (sss_cons (ss_asg (se_var (i := 1) rfl (by first | exact Or.inl rfl | exact Or.inr (Or.inl rfl) | exact Or.inr (Or.inr rfl))) (sg_tup (n := 2) rfl (sgs_cons (sg_name (i := 2) sc_do_set.nd rfl (by first | exact Or.inl rfl | exact Or.inr rfl)) (sgs_cons (sg_name (i := 3) sc_do_set.nd rfl (by first | exact Or.inl rfl | exact Or.inr rfl)) sgs_nil))))
    (sss_cons (ss_asg (se_var (i := 3) rfl (by first | exact Or.inl rfl | exact Or.inr (Or.inl rfl) | exact Or.inr (Or.inr rfl))) (sg_sub (setm hr.units) (se_fld (N := NN) 14 (.cons T.cl_Walk T.na_Walk_variables .nil) (se_var (i := 0) rfl (by first | exact Or.inl rfl | exact Or.inr (Or.inl rfl) | exact Or.inr (Or.inr rfl)))) (se_var (i := 2) rfl (by first | exact Or.inl rfl | exact Or.inr (Or.inl rfl) | exact Or.inr (Or.inr rfl)))))
    sss_nil))
noncomputable def b_Walk_term (φ : Nat) : ZS := (zSeq (zRet (xGet2 (xFld 14 [33] (xVar 0)) (xVar 1) (xVar 1)))
    zNil)
noncomputable def m_Walk_term (φ : Nat) : List Vl → Sto → Out Vl := runB0 2 (b_Walk_term φ)
theorem fk_Walk_term {P : Program} {w : World} {K : PySem.W.Frag} {mg : Str → Option Value} {base : Heap} (T : Txt w K mg) (φ : Nat) : FnM NN P w K mg base CX0 1 (He.ma K (He.ga K "Walk") "term") (FunD K "term" "Walk.term" (defArgs s_Walk_term) (defBody s_Walk_term) (defScope s_Walk_term) [] [] (He.ma K (He.ga K "Walk") "term")) ["self", "term"] (m_Walk_term φ) :=
  fn_mk0 (k := 0) (b := b_Walk_term φ) (L := N_Walk_term) T.F_Walk_term sc_Walk_term fun cdv A outer s H E hr => SSs.nox (sss_cons (ss_ret (se_get2 hr.units (se_fld (N := NN) 14 (.cons T.cl_Walk T.na_Walk_variables .nil) (se_var (i := 0) rfl (by first | exact Or.inl rfl | exact Or.inr (Or.inl rfl) | exact Or.inr (Or.inr rfl)))) (se_var (i := 1) rfl (by first | exact Or.inl rfl | exact Or.inr (Or.inl rfl) | exact Or.inr (Or.inr rfl))) (se_var (i := 1) rfl (by first | exact Or.inl rfl | exact Or.inr (Or.inl rfl) | exact Or.inr (Or.inr rfl))) ⟨rfl, rfl, rfl, rfl⟩))
    sss_nil)
theorem bd_Walk_term_2 {K : PySem.W.Frag} {f : Addr} : Bd NN K (FunD K "term" "Walk.term" (defArgs s_Walk_term) (defBody s_Walk_term) (defScope s_Walk_term) [] [] f) ["self", "term"] 2 [] (fun xs _ => xs) := bd_all (fun _ _ _ _ _ _ us hl => match us, hl with | [_, _], _ => rfl)
noncomputable def b_do_add (φ : Nat) : ZS := (zSeq (zAsg (xVar 1) (gmTup 2 (gmsCons (gmName 2) (gmsCons (gmName 3) gmsNil))))
    (zSeq (zAsg (xOp vMod (xOp vAdd (xOp vIx (xFld 14 [33] (xVar 0)) (xVar 2)) (xMeth ((33, ⟨1, 2, 0, (fun xs _ => xs), (m_Walk_term φ)⟩) :: []) (xVar 0) (bArgs (aCons (xVar 3) aNil) aNil))) (xC (.int 16))) (gmSub (xFld 14 [33] (xVar 0)) (xVar 2) vSetI))
    zNil))
noncomputable def m_do_add (φ : Nat) : List Vl → Sto → Out Vl := runB0 4 (b_do_add φ)
theorem fk_do_add {P : Program} {w : World} {K : PySem.W.Frag} {mg : Str → Option Value} {base : Heap} (T : Txt w K mg) (φ : Nat) : FnM NN P w K mg base CX0 2 (He.ga K "do_add") (FunD K "do_add" "do_add" (defArgs s_do_add) (defBody s_do_add) (defScope s_do_add) [] [] (He.ga K "do_add")) ["walk", "parts"] (m_do_add φ) :=
  fn_mk0 (k := 1) (b := b_do_add φ) (L := N_do_add) T.F_do_add sc_do_add fun cdv A outer s H E hr => SSs.nox (sss_cons (ss_asg (se_var (i := 1) rfl (by first | exact Or.inl rfl | exact Or.inr (Or.inl rfl) | exact Or.inr (Or.inr rfl))) (sg_tup (n := 2) rfl (sgs_cons (sg_name (i := 2) sc_do_add.nd rfl (by first | exact Or.inl rfl | exact Or.inr rfl)) (sgs_cons (sg_name (i := 3) sc_do_add.nd rfl (by first | exact Or.inl rfl | exact Or.inr rfl)) sgs_nil))))
    (sss_cons (ss_asg (se_op opm_mod (se_op opm_add (se_ix (ixm hr.units) (se_fld (N := NN) 14 (.cons T.cl_Walk T.na_Walk_variables .nil) (se_var (i := 0) rfl (by first | exact Or.inl rfl | exact Or.inr (Or.inl rfl) | exact Or.inr (Or.inr rfl)))) (se_var (i := 2) rfl (by first | exact Or.inl rfl | exact Or.inr (Or.inl rfl) | exact Or.inr (Or.inr rfl))) (fun _ _ => rfl)) (se_meth (N := NN) (k := 1) (.cons ⟨_, _, _, _, (fk_Walk_term (P := P) (base := base) T φ).mono (by first | decide | omega), bd_Walk_term_2, T.cl_Walk, T.me_Walk_term, rfl, rfl, pas0⟩ .nil) (nof (by decide +kernel)) (hr.mono (by first | decide | omega)) (se_var (i := 0) rfl (by first | exact Or.inl rfl | exact Or.inr (Or.inl rfl) | exact Or.inr (Or.inr rfl))) (sb_cons (sa_cons (se_var (i := 3) rfl (by first | exact Or.inl rfl | exact Or.inr (Or.inl rfl) | exact Or.inr (Or.inr rfl))) sa_nil) sk_nil))) (se_gint rfl T.c_SIZE)) (sg_sub (setm hr.units) (se_fld (N := NN) 14 (.cons T.cl_Walk T.na_Walk_variables .nil) (se_var (i := 0) rfl (by first | exact Or.inl rfl | exact Or.inr (Or.inl rfl) | exact Or.inr (Or.inr rfl)))) (se_var (i := 2) rfl (by first | exact Or.inl rfl | exact Or.inr (Or.inl rfl) | exact Or.inr (Or.inr rfl)))))
    sss_nil))
noncomputable def b_do_wait (φ : Nat) : ZS := (zSeq (zAsg (xC .non) (gmFld 8 [33] (xVar 0)))
    zNil)
noncomputable def m_do_wait (φ : Nat) : List Vl → Sto → Out Vl := runB0 2 (b_do_wait φ)
theorem fk_do_wait {P : Program} {w : World} {K : PySem.W.Frag} {mg : Str → Option Value} {base : Heap} (T : Txt w K mg) (φ : Nat) : FnM NN P w K mg base CX0 1 (He.ga K "do_wait") (FunD K "do_wait" "do_wait" (defArgs s_do_wait) (defBody s_do_wait) (defScope s_do_wait) [] [] (He.ga K "do_wait")) ["walk", "parts"] (m_do_wait φ) :=
  fn_mk0 (k := 0) (b := b_do_wait φ) (L := N_do_wait) T.F_do_wait sc_do_wait fun cdv A outer s H E hr => SSs.nox (sss_cons (ss_fld (N := NN) 8 (.cons T.cl_Walk T.na_Walk_replied .nil) (se_var (i := 0) rfl (by first | exact Or.inl rfl | exact Or.inr (Or.inl rfl) | exact Or.inr (Or.inr rfl))) se_non)
    sss_nil)
noncomputable def b_do_ask (φ : Nat) : ZS := (zSeq (zAsg (xVar 1) (gmTup 3 (gmsCons (gmName 2) (gmsCons (gmName 3) (gmsCons (gmName 4) gmsNil)))))
    (zSeq (zAsg (xMeth ((33, ⟨1, 2, 0, (fun xs _ => xs), (m_Walk_term φ)⟩) :: []) (xVar 0) (bArgs (aCons (xVar 3) aNil) aNil)) (gmName 5))
    (zSeq (zIf (yCmp vEq (xVar 2) (xC (.str "+"))) (zSeq (zAsg (xOp vAdd (xFld 11 [33] (xVar 0)) (xVar 5)) (gmName 5))
    zNil) (zSeq (zIf (yCmp vEq (xVar 2) (xC (.str "-"))) (zSeq (zAsg (xOp vSub (xFld 11 [33] (xVar 0)) (xVar 5)) (gmName 5))
    zNil) zNil)
    zNil))
    (zSeq (zIf (yCmp vGe (xVar 5) (xC (.int 0))) (zSeq (zAsg (xC (.bl true)) (gmSub (xFld 15 [33] (xVar 0)) (xVar 5) vSetI))
    zNil) zNil)
    (zSeq (zAsg (xCB vInt (aCons (xAnd (xOp vGe (xVar 5) (xC (.int 0))) (xOp vIn (xVar 5) (xFld 12 [33] (xVar 0)))) aNil)) (gmSub (xFld 14 [33] (xVar 0)) (xVar 4) vSetI))
    zNil)))))
noncomputable def m_do_ask (φ : Nat) : List Vl → Sto → Out Vl := runB0 6 (b_do_ask φ)
theorem fk_do_ask {P : Program} {w : World} {K : PySem.W.Frag} {mg : Str → Option Value} {base : Heap} (T : Txt w K mg) (φ : Nat) : FnM NN P w K mg base CX0 2 (He.ga K "do_ask") (FunD K "do_ask" "do_ask" (defArgs s_do_ask) (defBody s_do_ask) (defScope s_do_ask) [] [] (He.ga K "do_ask")) ["walk", "parts"] (m_do_ask φ) :=
  fn_mk0 (k := 1) (b := b_do_ask φ) (L := N_do_ask) T.F_do_ask sc_do_ask fun cdv A outer s H E hr => SSs.nox (sss_cons (ss_asg (se_var (i := 1) rfl (by first | exact Or.inl rfl | exact Or.inr (Or.inl rfl) | exact Or.inr (Or.inr rfl))) (sg_tup (n := 3) rfl (sgs_cons (sg_name (i := 2) sc_do_ask.nd rfl (by first | exact Or.inl rfl | exact Or.inr rfl)) (sgs_cons (sg_name (i := 3) sc_do_ask.nd rfl (by first | exact Or.inl rfl | exact Or.inr rfl)) (sgs_cons (sg_name (i := 4) sc_do_ask.nd rfl (by first | exact Or.inl rfl | exact Or.inr rfl)) sgs_nil)))))
    (sss_cons (ss_set (i := 5) sc_do_ask.nd rfl (by first | exact Or.inl rfl | exact Or.inr rfl) (se_meth (N := NN) (k := 1) (.cons ⟨_, _, _, _, (fk_Walk_term (P := P) (base := base) T φ).mono (by first | decide | omega), bd_Walk_term_2, T.cl_Walk, T.me_Walk_term, rfl, rfl, pas0⟩ .nil) (nof (by decide +kernel)) (hr.mono (by first | decide | omega)) (se_var (i := 0) rfl (by first | exact Or.inl rfl | exact Or.inr (Or.inl rfl) | exact Or.inr (Or.inr rfl))) (sb_cons (sa_cons (se_var (i := 3) rfl (by first | exact Or.inl rfl | exact Or.inr (Or.inl rfl) | exact Or.inr (Or.inr rfl))) sa_nil) sk_nil)))
    (sss_cons (ss_if (st_cmp (opm_eq hr.units) (se_var (i := 2) rfl (by first | exact Or.inl rfl | exact Or.inr (Or.inl rfl) | exact Or.inr (Or.inr rfl))) se_str (nomark _)) (sss_cons (ss_set (i := 5) sc_do_ask.nd rfl (by first | exact Or.inl rfl | exact Or.inr rfl) (se_op opm_add (se_fld (N := NN) 11 (.cons T.cl_Walk T.na_Walk_position .nil) (se_var (i := 0) rfl (by first | exact Or.inl rfl | exact Or.inr (Or.inl rfl) | exact Or.inr (Or.inr rfl)))) (se_var (i := 5) rfl (by first | exact Or.inl rfl | exact Or.inr (Or.inl rfl) | exact Or.inr (Or.inr rfl)))))
    sss_nil) (sss_cons (ss_if (st_cmp (opm_eq hr.units) (se_var (i := 2) rfl (by first | exact Or.inl rfl | exact Or.inr (Or.inl rfl) | exact Or.inr (Or.inr rfl))) se_str (nomark _)) (sss_cons (ss_set (i := 5) sc_do_ask.nd rfl (by first | exact Or.inl rfl | exact Or.inr rfl) (se_op opm_sub (se_fld (N := NN) 11 (.cons T.cl_Walk T.na_Walk_position .nil) (se_var (i := 0) rfl (by first | exact Or.inl rfl | exact Or.inr (Or.inl rfl) | exact Or.inr (Or.inr rfl)))) (se_var (i := 5) rfl (by first | exact Or.inl rfl | exact Or.inr (Or.inl rfl) | exact Or.inr (Or.inr rfl)))))
    sss_nil) sss_nil)
    sss_nil))
    (sss_cons (ss_if (st_cmp opm_ge (se_var (i := 5) rfl (by first | exact Or.inl rfl | exact Or.inr (Or.inl rfl) | exact Or.inr (Or.inr rfl))) se_int (nomark _)) (sss_cons (ss_asg se_bl (sg_sub (setm hr.units) (se_fld (N := NN) 15 (.cons T.cl_Walk T.na_Walk_requested .nil) (se_var (i := 0) rfl (by first | exact Or.inl rfl | exact Or.inr (Or.inl rfl) | exact Or.inr (Or.inr rfl)))) (se_var (i := 5) rfl (by first | exact Or.inl rfl | exact Or.inr (Or.inl rfl) | exact Or.inr (Or.inr rfl)))))
    sss_nil) sss_nil)
    (sss_cons (ss_asg (se_callTy cm_int rfl T.m_int boot_int (sa_cons (se_and (se_cmp opm_ge (se_var (i := 5) rfl (by first | exact Or.inl rfl | exact Or.inr (Or.inl rfl) | exact Or.inr (Or.inr rfl))) se_int (nomark _)) (se_one (se_cmp (opm_in hr.units) (se_var (i := 5) rfl (by first | exact Or.inl rfl | exact Or.inr (Or.inl rfl) | exact Or.inr (Or.inr rfl))) (se_fld (N := NN) 12 (.cons T.cl_Walk T.na_Walk_known .nil) (se_var (i := 0) rfl (by first | exact Or.inl rfl | exact Or.inr (Or.inl rfl) | exact Or.inr (Or.inr rfl)))) (by rfl)))) sa_nil)) (sg_sub (setm hr.units) (se_fld (N := NN) 14 (.cons T.cl_Walk T.na_Walk_variables .nil) (se_var (i := 0) rfl (by first | exact Or.inl rfl | exact Or.inr (Or.inl rfl) | exact Or.inr (Or.inr rfl)))) (se_var (i := 4) rfl (by first | exact Or.inl rfl | exact Or.inr (Or.inl rfl) | exact Or.inr (Or.inr rfl)))))
    sss_nil)))))
noncomputable def b_do_answer (φ : Nat) : ZS := (zSeq (zAsg (xOp vIx (xVar 1) (xC (.int 0))) (gmFld 8 [33] (xVar 0)))
    zNil)
noncomputable def m_do_answer (φ : Nat) : List Vl → Sto → Out Vl := runB0 2 (b_do_answer φ)
theorem fk_do_answer {P : Program} {w : World} {K : PySem.W.Frag} {mg : Str → Option Value} {base : Heap} (T : Txt w K mg) (φ : Nat) : FnM NN P w K mg base CX0 1 (He.ga K "do_answer") (FunD K "do_answer" "do_answer" (defArgs s_do_answer) (defBody s_do_answer) (defScope s_do_answer) [] [] (He.ga K "do_answer")) ["walk", "parts"] (m_do_answer φ) :=
  fn_mk0 (k := 0) (b := b_do_answer φ) (L := N_do_answer) T.F_do_answer sc_do_answer fun cdv A outer s H E hr => SSs.nox (sss_cons (ss_fld (N := NN) 8 (.cons T.cl_Walk T.na_Walk_replied .nil) (se_var (i := 0) rfl (by first | exact Or.inl rfl | exact Or.inr (Or.inl rfl) | exact Or.inr (Or.inr rfl))) (se_ix (ixm hr.units) (se_var (i := 1) rfl (by first | exact Or.inl rfl | exact Or.inr (Or.inl rfl) | exact Or.inr (Or.inr rfl))) se_int (fun _ _ => rfl)))
    sss_nil)
noncomputable def b_do_grow (φ : Nat) : ZS := (zSeq (zFldAug 9 [33] (xVar 0) (xMeth ((33, ⟨1, 2, 0, (fun xs _ => xs), (m_Walk_term φ)⟩) :: []) (xVar 0) (bArgs (aCons (xOp vIx (xVar 1) (xC (.int 0))) aNil) aNil)) vIadd)
    zNil)
noncomputable def m_do_grow (φ : Nat) : List Vl → Sto → Out Vl := runB0 2 (b_do_grow φ)
theorem fk_do_grow {P : Program} {w : World} {K : PySem.W.Frag} {mg : Str → Option Value} {base : Heap} (T : Txt w K mg) (φ : Nat) : FnM NN P w K mg base CX0 2 (He.ga K "do_grow") (FunD K "do_grow" "do_grow" (defArgs s_do_grow) (defBody s_do_grow) (defScope s_do_grow) [] [] (He.ga K "do_grow")) ["walk", "parts"] (m_do_grow φ) :=
  fn_mk0 (k := 1) (b := b_do_grow φ) (L := N_do_grow) T.F_do_grow sc_do_grow fun cdv A outer s H E hr => SSs.nox (sss_cons (ss_fldaug (N := NN) 9 opm_iadd (.cons T.cl_Walk T.na_Walk_counter .nil) (se_var (i := 0) rfl (by first | exact Or.inl rfl | exact Or.inr (Or.inl rfl) | exact Or.inr (Or.inr rfl))) (se_meth (N := NN) (k := 1) (.cons ⟨_, _, _, _, (fk_Walk_term (P := P) (base := base) T φ).mono (by first | decide | omega), bd_Walk_term_2, T.cl_Walk, T.me_Walk_term, rfl, rfl, pas0⟩ .nil) (nof (by decide +kernel)) (hr.mono (by first | decide | omega)) (se_var (i := 0) rfl (by first | exact Or.inl rfl | exact Or.inr (Or.inl rfl) | exact Or.inr (Or.inr rfl))) (sb_cons (sa_cons (se_ix (ixm hr.units) (se_var (i := 1) rfl (by first | exact Or.inl rfl | exact Or.inr (Or.inl rfl) | exact Or.inr (Or.inr rfl))) se_int (fun _ _ => rfl)) sa_nil) sk_nil)))
    sss_nil)
noncomputable def b_do_list (φ : Nat) : ZS := (zSeq (zDrop (xBM "list" mAppend (xFld 16 [33] (xVar 0)) (aCons (xTup (aCons (xFld 13 [33] (xVar 0)) (aCons (xOp vAdd (xFld 9 [33] (xVar 0)) (xMeth ((33, ⟨1, 2, 0, (fun xs _ => xs), (m_Walk_term φ)⟩) :: []) (xVar 0) (bArgs (aCons (xOp vIx (xVar 1) (xC (.int 0))) aNil) aNil))) aNil))) aNil)))
    zNil)
noncomputable def m_do_list (φ : Nat) : List Vl → Sto → Out Vl := runB0 2 (b_do_list φ)
theorem fk_do_list {P : Program} {w : World} {K : PySem.W.Frag} {mg : Str → Option Value} {base : Heap} (T : Txt w K mg) (φ : Nat) : FnM NN P w K mg base CX0 2 (He.ga K "do_list") (FunD K "do_list" "do_list" (defArgs s_do_list) (defBody s_do_list) (defScope s_do_list) [] [] (He.ga K "do_list")) ["walk", "parts"] (m_do_list φ) :=
  fn_mk0 (k := 1) (b := b_do_list φ) (L := N_do_list) T.F_do_list sc_do_list fun cdv A outer s H E hr => SSs.nox (sss_cons (ss_expr (se_bm mm_append PySem.F.plainAttrs_list PySem.F.slot_list_append PySem.F.type_list_append (se_fld (N := NN) 16 (.cons T.cl_Walk T.na_Walk_listed .nil) (se_var (i := 0) rfl (by first | exact Or.inl rfl | exact Or.inr (Or.inl rfl) | exact Or.inr (Or.inr rfl)))) (sa_cons (se_tup (sa_cons (se_fld (N := NN) 13 (.cons T.cl_Walk T.na_Walk_steps .nil) (se_var (i := 0) rfl (by first | exact Or.inl rfl | exact Or.inr (Or.inl rfl) | exact Or.inr (Or.inr rfl)))) (sa_cons (se_op opm_add (se_fld (N := NN) 9 (.cons T.cl_Walk T.na_Walk_counter .nil) (se_var (i := 0) rfl (by first | exact Or.inl rfl | exact Or.inr (Or.inl rfl) | exact Or.inr (Or.inr rfl)))) (se_meth (N := NN) (k := 1) (.cons ⟨_, _, _, _, (fk_Walk_term (P := P) (base := base) T φ).mono (by first | decide | omega), bd_Walk_term_2, T.cl_Walk, T.me_Walk_term, rfl, rfl, pas0⟩ .nil) (nof (by decide +kernel)) (hr.mono (by first | decide | omega)) (se_var (i := 0) rfl (by first | exact Or.inl rfl | exact Or.inr (Or.inl rfl) | exact Or.inr (Or.inr rfl))) (sb_cons (sa_cons (se_ix (ixm hr.units) (se_var (i := 1) rfl (by first | exact Or.inl rfl | exact Or.inr (Or.inl rfl) | exact Or.inr (Or.inr rfl))) se_int (fun _ _ => rfl)) sa_nil) sk_nil))) sa_nil))) sa_nil)))
    sss_nil)
noncomputable def b_is_true (φ : Nat) : ZS := (zSeq (zAsg (xVar 1) (gmTup 3 (gmsCons (gmName 2) (gmsCons (gmName 3) (gmsCons (gmName 4) gmsNil)))))
    (zSeq (zPar 5 6 (xOp vIx (xFld 14 [33] (xVar 0)) (xVar 2)) (xMeth ((33, ⟨1, 2, 0, (fun xs _ => xs), (m_Walk_term φ)⟩) :: []) (xVar 0) (bArgs (aCons (xVar 4) aNil) aNil)))
    (zSeq (zIf (yCmp vEq (xVar 3) (xC (.str "<"))) (zSeq (zRet (xOp vLt (xVar 5) (xVar 6)))
    zNil) zNil)
    (zSeq (zRet (xOp vEq (xOp vEq (xVar 5) (xVar 6)) (xOp vEq (xVar 3) (xC (.str "==")))))
    zNil))))
noncomputable def m_is_true (φ : Nat) : List Vl → Sto → Out Vl := runB0 7 (b_is_true φ)
theorem fk_is_true {P : Program} {w : World} {K : PySem.W.Frag} {mg : Str → Option Value} {base : Heap} (T : Txt w K mg) (φ : Nat) : FnM NN P w K mg base CX0 2 (He.ga K "is_true") (FunD K "is_true" "is_true" (defArgs s_is_true) (defBody s_is_true) (defScope s_is_true) [] [] (He.ga K "is_true")) ["walk", "condition"] (m_is_true φ) :=
  fn_mk0 (k := 1) (b := b_is_true φ) (L := N_is_true) T.F_is_true sc_is_true fun cdv A outer s H E hr => SSs.nox (sss_cons (ss_asg (se_var (i := 1) rfl (by first | exact Or.inl rfl | exact Or.inr (Or.inl rfl) | exact Or.inr (Or.inr rfl))) (sg_tup (n := 3) rfl (sgs_cons (sg_name (i := 2) sc_is_true.nd rfl (by first | exact Or.inl rfl | exact Or.inr rfl)) (sgs_cons (sg_name (i := 3) sc_is_true.nd rfl (by first | exact Or.inl rfl | exact Or.inr rfl)) (sgs_cons (sg_name (i := 4) sc_is_true.nd rfl (by first | exact Or.inl rfl | exact Or.inr rfl)) sgs_nil)))))
    (sss_cons (ss_par (i := 5) (j := 6) rfl sc_is_true.nd rfl rfl (by decide) rfl rfl (se_ix (ixm hr.units) (se_fld (N := NN) 14 (.cons T.cl_Walk T.na_Walk_variables .nil) (se_var (i := 0) rfl (by first | exact Or.inl rfl | exact Or.inr (Or.inl rfl) | exact Or.inr (Or.inr rfl)))) (se_var (i := 2) rfl (by first | exact Or.inl rfl | exact Or.inr (Or.inl rfl) | exact Or.inr (Or.inr rfl))) (fun _ _ => rfl)) (se_meth (N := NN) (k := 1) (.cons ⟨_, _, _, _, (fk_Walk_term (P := P) (base := base) T φ).mono (by first | decide | omega), bd_Walk_term_2, T.cl_Walk, T.me_Walk_term, rfl, rfl, pas0⟩ .nil) (nof (by decide +kernel)) (hr.mono (by first | decide | omega)) (se_var (i := 0) rfl (by first | exact Or.inl rfl | exact Or.inr (Or.inl rfl) | exact Or.inr (Or.inr rfl))) (sb_cons (sa_cons (se_var (i := 4) rfl (by first | exact Or.inl rfl | exact Or.inr (Or.inl rfl) | exact Or.inr (Or.inr rfl))) sa_nil) sk_nil)) (by rfl))
    (sss_cons (ss_if (st_cmp (opm_eq hr.units) (se_var (i := 3) rfl (by first | exact Or.inl rfl | exact Or.inr (Or.inl rfl) | exact Or.inr (Or.inr rfl))) se_str (nomark _)) (sss_cons (ss_ret (se_cmp opm_lt (se_var (i := 5) rfl (by first | exact Or.inl rfl | exact Or.inr (Or.inl rfl) | exact Or.inr (Or.inr rfl))) (se_var (i := 6) rfl (by first | exact Or.inl rfl | exact Or.inr (Or.inl rfl) | exact Or.inr (Or.inr rfl))) (nomark _)))
    sss_nil) sss_nil)
    (sss_cons (ss_ret (se_cmp (opm_eq hr.units) (se_cmp (opm_eq hr.units) (se_var (i := 5) rfl (by first | exact Or.inl rfl | exact Or.inr (Or.inl rfl) | exact Or.inr (Or.inr rfl))) (se_var (i := 6) rfl (by first | exact Or.inl rfl | exact Or.inr (Or.inl rfl) | exact Or.inr (Or.inr rfl))) (nomark _)) (se_cmp (opm_eq hr.units) (se_var (i := 3) rfl (by first | exact Or.inl rfl | exact Or.inr (Or.inl rfl) | exact Or.inr (Or.inr rfl))) se_str (nomark _)) (nomark _)))
    sss_nil))))
theorem bd_is_true_2 {K : PySem.W.Frag} {f : Addr} : Bd NN K (FunD K "is_true" "is_true" (defArgs s_is_true) (defBody s_is_true) (defScope s_is_true) [] [] f) ["walk", "condition"] 2 [] (fun xs _ => xs) := bd_all (fun _ _ _ _ _ _ us hl => match us, hl with | [_, _], _ => rfl)
noncomputable def b_do_test (φ : Nat) : ZS := (zSeq (zAsg (xVar 1) (gmTup 2 (gmsCons (gmName 2) (gmsCons (gmName 3) gmsNil))))
    (zSeq (zIf (yNot (yV (xCall 2 2 (fun xs _ => xs) 0 (m_is_true φ) (bArgs (aCons (xVar 0) (aCons (xVar 2) aNil)) aNil)))) (zSeq (zAsg (xVar 3) (gmFld 1 [33] (xVar 0)))
    zNil) zNil)
    zNil))
noncomputable def m_do_test (φ : Nat) : List Vl → Sto → Out Vl := runB0 4 (b_do_test φ)
theorem fk_do_test {P : Program} {w : World} {K : PySem.W.Frag} {mg : Str → Option Value} {base : Heap} (T : Txt w K mg) (φ : Nat) : FnM NN P w K mg base CX0 3 (He.ga K "do_test") (FunD K "do_test" "do_test" (defArgs s_do_test) (defBody s_do_test) (defScope s_do_test) [] [] (He.ga K "do_test")) ["walk", "parts"] (m_do_test φ) :=
  fn_mk0 (k := 2) (b := b_do_test φ) (L := N_do_test) T.F_do_test sc_do_test fun cdv A outer s H E hr => SSs.nox (sss_cons (ss_asg (se_var (i := 1) rfl (by first | exact Or.inl rfl | exact Or.inr (Or.inl rfl) | exact Or.inr (Or.inr rfl))) (sg_tup (n := 2) rfl (sgs_cons (sg_name (i := 2) sc_do_test.nd rfl (by first | exact Or.inl rfl | exact Or.inr rfl)) (sgs_cons (sg_name (i := 3) sc_do_test.nd rfl (by first | exact Or.inl rfl | exact Or.inr rfl)) sgs_nil))))
    (sss_cons (ss_if (st_not (st_val (se_call (N := NN) (fk_is_true (P := P) (base := base) T φ) bd_is_true_2 (hr.mono (by first | decide | omega)) rfl T.g_is_true pas0 (sb_cons (sa_cons (se_var (i := 0) rfl (by first | exact Or.inl rfl | exact Or.inr (Or.inl rfl) | exact Or.inr (Or.inr rfl))) (sa_cons (se_var (i := 2) rfl (by first | exact Or.inl rfl | exact Or.inr (Or.inl rfl) | exact Or.inr (Or.inr rfl))) sa_nil)) sk_nil)))) (sss_cons (ss_fld (N := NN) 1 (.cons T.cl_Walk T.na_Walk_index .nil) (se_var (i := 0) rfl (by first | exact Or.inl rfl | exact Or.inr (Or.inl rfl) | exact Or.inr (Or.inr rfl))) (se_var (i := 3) rfl (by first | exact Or.inl rfl | exact Or.inr (Or.inl rfl) | exact Or.inr (Or.inr rfl))))
    sss_nil) sss_nil)
    sss_nil))
noncomputable def b_do_jump (φ : Nat) : ZS := (zSeq (zAsg (xOp vIx (xVar 1) (xC (.int 0))) (gmFld 1 [33] (xVar 0)))
    zNil)
noncomputable def m_do_jump (φ : Nat) : List Vl → Sto → Out Vl := runB0 2 (b_do_jump φ)
theorem fk_do_jump {P : Program} {w : World} {K : PySem.W.Frag} {mg : Str → Option Value} {base : Heap} (T : Txt w K mg) (φ : Nat) : FnM NN P w K mg base CX0 1 (He.ga K "do_jump") (FunD K "do_jump" "do_jump" (defArgs s_do_jump) (defBody s_do_jump) (defScope s_do_jump) [] [] (He.ga K "do_jump")) ["walk", "parts"] (m_do_jump φ) :=
  fn_mk0 (k := 0) (b := b_do_jump φ) (L := N_do_jump) T.F_do_jump sc_do_jump fun cdv A outer s H E hr => SSs.nox (sss_cons (ss_fld (N := NN) 1 (.cons T.cl_Walk T.na_Walk_index .nil) (se_var (i := 0) rfl (by first | exact Or.inl rfl | exact Or.inr (Or.inl rfl) | exact Or.inr (Or.inr rfl))) (se_ix (ixm hr.units) (se_var (i := 1) rfl (by first | exact Or.inl rfl | exact Or.inr (Or.inl rfl) | exact Or.inr (Or.inr rfl))) se_int (fun _ _ => rfl)))
    sss_nil)
theorem bd_Walk_next_cost_1 {K : PySem.W.Frag} {f : Addr} : Bd NN K (FunD K "next_cost" "Walk.next_cost" (defArgs s_Walk_next_cost) (defBody s_Walk_next_cost) (defScope s_Walk_next_cost) [] [] f) ["self"] 1 [] (fun xs _ => xs) := bd_all (fun _ _ _ _ _ _ us hl => match us, hl with | [_], _ => rfl)
theorem bd_do_jump_2 {K : PySem.W.Frag} {f : Addr} : Bd NN K (FunD K "do_jump" "do_jump" (defArgs s_do_jump) (defBody s_do_jump) (defScope s_do_jump) [] [] f) ["walk", "parts"] 2 [] (fun xs _ => xs) := bd_all (fun _ _ _ _ _ _ us hl => match us, hl with | [_, _], _ => rfl)
theorem bd_do_test_2 {K : PySem.W.Frag} {f : Addr} : Bd NN K (FunD K "do_test" "do_test" (defArgs s_do_test) (defBody s_do_test) (defScope s_do_test) [] [] f) ["walk", "parts"] 2 [] (fun xs _ => xs) := bd_all (fun _ _ _ _ _ _ us hl => match us, hl with | [_, _], _ => rfl)
theorem bd_do_list_2 {K : PySem.W.Frag} {f : Addr} : Bd NN K (FunD K "do_list" "do_list" (defArgs s_do_list) (defBody s_do_list) (defScope s_do_list) [] [] f) ["walk", "parts"] 2 [] (fun xs _ => xs) := bd_all (fun _ _ _ _ _ _ us hl => match us, hl with | [_, _], _ => rfl)
theorem bd_do_grow_2 {K : PySem.W.Frag} {f : Addr} : Bd NN K (FunD K "do_grow" "do_grow" (defArgs s_do_grow) (defBody s_do_grow) (defScope s_do_grow) [] [] f) ["walk", "parts"] 2 [] (fun xs _ => xs) := bd_all (fun _ _ _ _ _ _ us hl => match us, hl with | [_, _], _ => rfl)
theorem bd_do_answer_2 {K : PySem.W.Frag} {f : Addr} : Bd NN K (FunD K "do_answer" "do_answer" (defArgs s_do_answer) (defBody s_do_answer) (defScope s_do_answer) [] [] f) ["walk", "parts"] 2 [] (fun xs _ => xs) := bd_all (fun _ _ _ _ _ _ us hl => match us, hl with | [_, _], _ => rfl)
theorem bd_do_ask_2 {K : PySem.W.Frag} {f : Addr} : Bd NN K (FunD K "do_ask" "do_ask" (defArgs s_do_ask) (defBody s_do_ask) (defScope s_do_ask) [] [] f) ["walk", "parts"] 2 [] (fun xs _ => xs) := bd_all (fun _ _ _ _ _ _ us hl => match us, hl with | [_, _], _ => rfl)
theorem bd_do_wait_2 {K : PySem.W.Frag} {f : Addr} : Bd NN K (FunD K "do_wait" "do_wait" (defArgs s_do_wait) (defBody s_do_wait) (defScope s_do_wait) [] [] f) ["walk", "parts"] 2 [] (fun xs _ => xs) := bd_all (fun _ _ _ _ _ _ us hl => match us, hl with | [_, _], _ => rfl)
theorem bd_do_add_2 {K : PySem.W.Frag} {f : Addr} : Bd NN K (FunD K "do_add" "do_add" (defArgs s_do_add) (defBody s_do_add) (defScope s_do_add) [] [] f) ["walk", "parts"] 2 [] (fun xs _ => xs) := bd_all (fun _ _ _ _ _ _ us hl => match us, hl with | [_, _], _ => rfl)
theorem bd_do_set_2 {K : PySem.W.Frag} {f : Addr} : Bd NN K (FunD K "do_set" "do_set" (defArgs s_do_set) (defBody s_do_set) (defScope s_do_set) [] [] f) ["walk", "parts"] 2 [] (fun xs _ => xs) := bd_all (fun _ _ _ _ _ _ us hl => match us, hl with | [_, _], _ => rfl)
noncomputable def b_Walk_execute (φ : Nat) : ZS := (zSeq (zFldAug 13 [33] (xVar 0) (xMeth ((33, ⟨0, 1, 0, (fun xs _ => xs), (m_Walk_next_cost φ)⟩) :: []) (xVar 0) (bArgs aNil aNil)) vIadd)
    (zSeq (zAsg (xOp vIx (xFld 10 [33] (xVar 0)) (xFld 1 [33] (xVar 0))) (gmStar1 (gmName 1) (gmName 2)))
    (zSeq (zFldAug 1 [33] (xVar 0) (xC (.int 1)) vIadd)
    (zSeq (zAsg (xOp (vIxT 34 tb_ACTIONS) (xC (.fn 34)) (xVar 1)) (gmName 3))
    (zSeq (zDrop (xCallV ((35, ⟨2, 2, 0, (fun xs _ => xs), (m_do_set φ)⟩) :: (36, ⟨2, 2, 0, (fun xs _ => xs), (m_do_add φ)⟩) :: (37, ⟨2, 2, 0, (fun xs _ => xs), (m_do_wait φ)⟩) :: (38, ⟨2, 2, 0, (fun xs _ => xs), (m_do_ask φ)⟩) :: (39, ⟨2, 2, 0, (fun xs _ => xs), (m_do_answer φ)⟩) :: (40, ⟨2, 2, 0, (fun xs _ => xs), (m_do_grow φ)⟩) :: (41, ⟨2, 2, 0, (fun xs _ => xs), (m_do_list φ)⟩) :: (42, ⟨2, 2, 0, (fun xs _ => xs), (m_do_test φ)⟩) :: (43, ⟨2, 2, 0, (fun xs _ => xs), (m_do_jump φ)⟩) :: []) 3 (bArgs (aCons (xVar 0) (aCons (xVar 2) aNil)) aNil)))
    zNil)))))
noncomputable def m_Walk_execute (φ : Nat) : List Vl → Sto → Out Vl := runB0 4 (b_Walk_execute φ)
theorem fk_Walk_execute {P : Program} {w : World} {K : PySem.W.Frag} {mg : Str → Option Value} {base : Heap} (T : Txt w K mg) (φ : Nat) : FnM NN P w K mg base CX0 4 (He.ma K (He.ga K "Walk") "execute") (FunD K "execute" "Walk.execute" (defArgs s_Walk_execute) (defBody s_Walk_execute) (defScope s_Walk_execute) [] [] (He.ma K (He.ga K "Walk") "execute")) ["self"] (m_Walk_execute φ) :=
  fn_mk0 (k := 3) (b := b_Walk_execute φ) (L := N_Walk_execute) T.F_Walk_execute sc_Walk_execute fun cdv A outer s H E hr => SSs.nox (sss_cons (ss_fldaug (N := NN) 13 opm_iadd (.cons T.cl_Walk T.na_Walk_steps .nil) (se_var (i := 0) rfl (by first | exact Or.inl rfl | exact Or.inr (Or.inl rfl) | exact Or.inr (Or.inr rfl))) (se_meth (N := NN) (k := 1) (.cons ⟨_, _, _, _, (fk_Walk_next_cost (P := P) (base := base) T φ).mono (by first | decide | omega), bd_Walk_next_cost_1, T.cl_Walk, T.me_Walk_next_cost, rfl, rfl, pas0⟩ .nil) (nof (by decide +kernel)) (hr.mono (by first | decide | omega)) (se_var (i := 0) rfl (by first | exact Or.inl rfl | exact Or.inr (Or.inl rfl) | exact Or.inr (Or.inr rfl))) (sb_nil sk_nil)))
    (sss_cons (ss_asg (se_ix (ixm hr.units) (se_fld (N := NN) 10 (.cons T.cl_Walk T.na_Walk_code .nil) (se_var (i := 0) rfl (by first | exact Or.inl rfl | exact Or.inr (Or.inl rfl) | exact Or.inr (Or.inr rfl)))) (se_fld (N := NN) 1 (.cons T.cl_Walk T.na_Walk_index .nil) (se_var (i := 0) rfl (by first | exact Or.inl rfl | exact Or.inr (Or.inl rfl) | exact Or.inr (Or.inr rfl)))) (fun _ _ => rfl)) (sg_star1 rfl (sg_name (i := 1) sc_Walk_execute.nd rfl (by first | exact Or.inl rfl | exact Or.inr rfl)) (sg_name (i := 2) sc_Walk_execute.nd rfl (by first | exact Or.inl rfl | exact Or.inr rfl))))
    (sss_cons (ss_fldaug (N := NN) 1 opm_iadd (.cons T.cl_Walk T.na_Walk_index .nil) (se_var (i := 0) rfl (by first | exact Or.inl rfl | exact Or.inr (Or.inl rfl) | exact Or.inr (Or.inr rfl))) se_int)
    (sss_cons (ss_set (i := 3) sc_Walk_execute.nd rfl (by first | exact Or.inl rfl | exact Or.inr rfl) (se_ix (ixmT (k := 34) T.d_ACTIONS (tr_ACTIONS T)) (se_gfn (N := NN) 34 rfl T.g_ACTIONS) (se_var (i := 1) rfl (by first | exact Or.inl rfl | exact Or.inr (Or.inl rfl) | exact Or.inr (Or.inr rfl))) (fun _ _ => rfl)))
    (sss_cons (ss_expr (se_callV (i := 3) (k := 3) (N := NN) (.cons ⟨_, _, _, (fk_do_set (P := P) (base := base) T φ).mono (by first | decide | omega), bd_do_set_2, rfl, rfl, pas0⟩ (.cons ⟨_, _, _, (fk_do_add (P := P) (base := base) T φ).mono (by first | decide | omega), bd_do_add_2, rfl, rfl, pas0⟩ (.cons ⟨_, _, _, (fk_do_wait (P := P) (base := base) T φ).mono (by first | decide | omega), bd_do_wait_2, rfl, rfl, pas0⟩ (.cons ⟨_, _, _, (fk_do_ask (P := P) (base := base) T φ).mono (by first | decide | omega), bd_do_ask_2, rfl, rfl, pas0⟩ (.cons ⟨_, _, _, (fk_do_answer (P := P) (base := base) T φ).mono (by first | decide | omega), bd_do_answer_2, rfl, rfl, pas0⟩ (.cons ⟨_, _, _, (fk_do_grow (P := P) (base := base) T φ).mono (by first | decide | omega), bd_do_grow_2, rfl, rfl, pas0⟩ (.cons ⟨_, _, _, (fk_do_list (P := P) (base := base) T φ).mono (by first | decide | omega), bd_do_list_2, rfl, rfl, pas0⟩ (.cons ⟨_, _, _, (fk_do_test (P := P) (base := base) T φ).mono (by first | decide | omega), bd_do_test_2, rfl, rfl, pas0⟩ (.cons ⟨_, _, _, (fk_do_jump (P := P) (base := base) T φ).mono (by first | decide | omega), bd_do_jump_2, rfl, rfl, pas0⟩ .nil))))))))) (hr.mono (by first | decide | omega)) rfl (by first | exact Or.inl rfl | exact Or.inr (Or.inl rfl)) (sb_cons (sa_cons (se_var (i := 0) rfl (by first | exact Or.inl rfl | exact Or.inr (Or.inl rfl) | exact Or.inr (Or.inr rfl))) (sa_cons (se_var (i := 2) rfl (by first | exact Or.inl rfl | exact Or.inr (Or.inl rfl) | exact Or.inr (Or.inr rfl))) sa_nil)) sk_nil)))
    sss_nil)))))
theorem bd_Walk_state_1 {K : PySem.W.Frag} {f : Addr} : Bd NN K (FunD K "state" "Walk.state" (defArgs s_Walk_state) (defBody s_Walk_state) (defScope s_Walk_state) [] [] f) ["self"] 1 [] (fun xs _ => xs) := bd_all (fun _ _ _ _ _ _ us hl => match us, hl with | [_], _ => rfl)
theorem bd_Walk_is_over_1 {K : PySem.W.Frag} {f : Addr} : Bd NN K (FunD K "is_over" "Walk.is_over" (defArgs s_Walk_is_over) (defBody s_Walk_is_over) (defScope s_Walk_is_over) [] [] f) ["self"] 1 [] (fun xs _ => xs) := bd_all (fun _ _ _ _ _ _ us hl => match us, hl with | [_], _ => rfl)
theorem bd_Walk_execute_1 {K : PySem.W.Frag} {f : Addr} : Bd NN K (FunD K "execute" "Walk.execute" (defArgs s_Walk_execute) (defBody s_Walk_execute) (defScope s_Walk_execute) [] [] f) ["self"] 1 [] (fun xs _ => xs) := bd_all (fun _ _ _ _ _ _ us hl => match us, hl with | [_], _ => rfl)
noncomputable def t1_follow (φ : Nat)  : XT := (yAnd (yNot (yV (xMeth ((33, ⟨0, 1, 0, (fun xs _ => xs), (m_Walk_is_over φ)⟩) :: []) (xVar 0) (bArgs aNil aNil)))) (yCmp vNotIn (xMeth ((33, ⟨0, 1, 0, (fun xs _ => xs), (m_Walk_state φ)⟩) :: []) (xVar 0) (bArgs aNil aNil)) (xVar 2)))
noncomputable def l1_follow (φ : Nat)  : ZS := (zSeq (zIf (yAnd (yCmp vIsNot (xVar 1) (xC .non)) (yCmp vGt (xOp vAdd (xFld 13 [33] (xVar 0)) (xMeth ((33, ⟨0, 1, 0, (fun xs _ => xs), (m_Walk_next_cost φ)⟩) :: []) (xVar 0) (bArgs aNil aNil))) (xVar 1))) (zSeq (zRet (xVar 2))
    zNil) zNil)
    (zSeq (zAsg (xFld 13 [33] (xVar 0)) (gmSub (xVar 2) (xMeth ((33, ⟨0, 1, 0, (fun xs _ => xs), (m_Walk_state φ)⟩) :: []) (xVar 0) (bArgs aNil aNil)) vSetI))
    (zSeq (zDrop (xMeth ((33, ⟨0, 1, 0, (fun xs _ => xs), (m_Walk_execute φ)⟩) :: []) (xVar 0) (bArgs aNil aNil)))
    zNil)))
noncomputable def b_follow (φ : Nat) : ZS := (zSeq (zAsg xDt (gmName 2))
    (zSeq (zWhile φ (t1_follow φ) (l1_follow φ))
    (zSeq (zRet (xVar 2))
    zNil)))
noncomputable def m_follow (φ : Nat) : List Vl → Sto → Out Vl := runB0 3 (b_follow φ)
theorem fk_follow {P : Program} {w : World} {K : PySem.W.Frag} {mg : Str → Option Value} {base : Heap} (T : Txt w K mg) (φ : Nat) : FnM NN P w K mg base CX0 5 (He.ga K "follow") (FunD K "follow" "follow" (defArgs s_follow) (defBody s_follow) (defScope s_follow) [] [] (He.ga K "follow")) ["walk", "limit"] (m_follow φ) :=
  fn_mk0 (k := 4) (b := b_follow φ) (L := N_follow) T.F_follow sc_follow fun cdv A outer s H E hr => SSs.nox (sss_cons (ss_set (i := 2) sc_follow.nd rfl (by first | exact Or.inl rfl | exact Or.inr rfl) se_dt)
    (sss_cons (ss_while φ PassesOwn.never (SW.st (sw_and (st_not (st_val (se_meth (N := NN) (k := 1) (.cons ⟨_, _, _, _, (fk_Walk_is_over (P := P) (base := base) T φ).mono (by first | decide | omega), bd_Walk_is_over_1, T.cl_Walk, T.me_Walk_is_over, rfl, rfl, pas0⟩ .nil) (nof (by decide +kernel)) (hr.mono (by first | decide | omega)) (se_var (i := 0) rfl (by first | exact Or.inl rfl | exact Or.inr (Or.inl rfl) | exact Or.inr (Or.inr rfl))) (sb_nil sk_nil)))) (sw_and1 (st_cmp (opm_notin hr.units) (se_meth (N := NN) (k := 1) (.cons ⟨_, _, _, _, (fk_Walk_state (P := P) (base := base) T φ).mono (by first | decide | omega), bd_Walk_state_1, T.cl_Walk, T.me_Walk_state, rfl, rfl, pas0⟩ .nil) (nof (by decide +kernel)) (hr.mono (by first | decide | omega)) (se_var (i := 0) rfl (by first | exact Or.inl rfl | exact Or.inr (Or.inl rfl) | exact Or.inr (Or.inr rfl))) (sb_nil sk_nil)) (se_var (i := 2) rfl (by first | exact Or.inl rfl | exact Or.inr (Or.inl rfl) | exact Or.inr (Or.inr rfl))) (by rfl))))) (sss_cons (ss_if (SW.st (sw_and (st_cmp opm_isnot (se_var (i := 1) rfl (by first | exact Or.inl rfl | exact Or.inr (Or.inl rfl) | exact Or.inr (Or.inr rfl))) se_non (nomark _)) (sw_and1 (st_cmp opm_gt (se_op opm_add (se_fld (N := NN) 13 (.cons T.cl_Walk T.na_Walk_steps .nil) (se_var (i := 0) rfl (by first | exact Or.inl rfl | exact Or.inr (Or.inl rfl) | exact Or.inr (Or.inr rfl)))) (se_meth (N := NN) (k := 1) (.cons ⟨_, _, _, _, (fk_Walk_next_cost (P := P) (base := base) T φ).mono (by first | decide | omega), bd_Walk_next_cost_1, T.cl_Walk, T.me_Walk_next_cost, rfl, rfl, pas0⟩ .nil) (nof (by decide +kernel)) (hr.mono (by first | decide | omega)) (se_var (i := 0) rfl (by first | exact Or.inl rfl | exact Or.inr (Or.inl rfl) | exact Or.inr (Or.inr rfl))) (sb_nil sk_nil))) (se_var (i := 1) rfl (by first | exact Or.inl rfl | exact Or.inr (Or.inl rfl) | exact Or.inr (Or.inr rfl))) (nomark _))))) (sss_cons (ss_ret (se_var (i := 2) rfl (by first | exact Or.inl rfl | exact Or.inr (Or.inl rfl) | exact Or.inr (Or.inr rfl))))
    sss_nil) sss_nil)
    (sss_cons (ss_asg (se_fld (N := NN) 13 (.cons T.cl_Walk T.na_Walk_steps .nil) (se_var (i := 0) rfl (by first | exact Or.inl rfl | exact Or.inr (Or.inl rfl) | exact Or.inr (Or.inr rfl)))) (sg_sub (setm hr.units) (se_var (i := 2) rfl (by first | exact Or.inl rfl | exact Or.inr (Or.inl rfl) | exact Or.inr (Or.inr rfl))) (se_meth (N := NN) (k := 1) (.cons ⟨_, _, _, _, (fk_Walk_state (P := P) (base := base) T φ).mono (by first | decide | omega), bd_Walk_state_1, T.cl_Walk, T.me_Walk_state, rfl, rfl, pas0⟩ .nil) (nof (by decide +kernel)) (hr.mono (by first | decide | omega)) (se_var (i := 0) rfl (by first | exact Or.inl rfl | exact Or.inr (Or.inl rfl) | exact Or.inr (Or.inr rfl))) (sb_nil sk_nil))))
    (sss_cons (ss_expr (se_meth (N := NN) (k := 4) (.cons ⟨_, _, _, _, (fk_Walk_execute (P := P) (base := base) T φ).mono (by first | decide | omega), bd_Walk_execute_1, T.cl_Walk, T.me_Walk_execute, rfl, rfl, pas0⟩ .nil) (nof (by decide +kernel)) (hr.mono (by first | decide | omega)) (se_var (i := 0) rfl (by first | exact Or.inl rfl | exact Or.inr (Or.inl rfl) | exact Or.inr (Or.inr rfl))) (sb_nil sk_nil)))
    sss_nil))))
    (sss_cons (ss_ret (se_var (i := 2) rfl (by first | exact Or.inl rfl | exact Or.inr (Or.inl rfl) | exact Or.inr (Or.inr rfl))))
    sss_nil)))
noncomputable def b_Run___init__ (φ : Nat) : ZS := (zSeq (zAsg (xVar 1) (gmFld 17 [44] (xVar 0)))
    (zSeq (zAsg (xVar 2) (gmFld 18 [44] (xVar 0)))
    (zSeq (zAsg (xVar 3) (gmFld 19 [44] (xVar 0)))
    (zSeq (zAsg (xVar 4) (gmFld 20 [44] (xVar 0)))
    (zSeq (zAsg (xVar 5) (gmFld 21 [44] (xVar 0)))
    (zSeq (zAsg (xVar 6) (gmFld 22 [44] (xVar 0)))
    zNil))))))
noncomputable def m_Run___init__ (φ : Nat) : List Vl → Sto → Out Vl := runB0 7 (b_Run___init__ φ)
theorem fk_Run___init__ {P : Program} {w : World} {K : PySem.W.Frag} {mg : Str → Option Value} {base : Heap} (T : Txt w K mg) (φ : Nat) : FnM NN P w K mg base CX0 1 (He.ma K (He.ga K "Run") "__init__") (FunD K "__init__" "Run.__init__" (defArgs s_Run___init__) (defBody s_Run___init__) (defScope s_Run___init__) [] [("answer", .non), ("length", .non), ("first", .non), ("second", .non)] (He.ma K (He.ga K "Run") "__init__")) ["self", "outcome", "asked", "answer", "length", "first", "second"] (m_Run___init__ φ) :=
  fn_mk0 (k := 0) (b := b_Run___init__ φ) (L := N_Run___init__) T.F_Run___init__ sc_Run___init__ fun cdv A outer s H E hr => SSs.nox (sss_cons (ss_fld (N := NN) 17 (.cons T.cl_Run T.na_Run_outcome .nil) (se_var (i := 0) rfl (by first | exact Or.inl rfl | exact Or.inr (Or.inl rfl) | exact Or.inr (Or.inr rfl))) (se_var (i := 1) rfl (by first | exact Or.inl rfl | exact Or.inr (Or.inl rfl) | exact Or.inr (Or.inr rfl))))
    (sss_cons (ss_fld (N := NN) 18 (.cons T.cl_Run T.na_Run_asked .nil) (se_var (i := 0) rfl (by first | exact Or.inl rfl | exact Or.inr (Or.inl rfl) | exact Or.inr (Or.inr rfl))) (se_var (i := 2) rfl (by first | exact Or.inl rfl | exact Or.inr (Or.inl rfl) | exact Or.inr (Or.inr rfl))))
    (sss_cons (ss_fld (N := NN) 19 (.cons T.cl_Run T.na_Run_answer .nil) (se_var (i := 0) rfl (by first | exact Or.inl rfl | exact Or.inr (Or.inl rfl) | exact Or.inr (Or.inr rfl))) (se_var (i := 3) rfl (by first | exact Or.inl rfl | exact Or.inr (Or.inl rfl) | exact Or.inr (Or.inr rfl))))
    (sss_cons (ss_fld (N := NN) 20 (.cons T.cl_Run T.na_Run_length .nil) (se_var (i := 0) rfl (by first | exact Or.inl rfl | exact Or.inr (Or.inl rfl) | exact Or.inr (Or.inr rfl))) (se_var (i := 4) rfl (by first | exact Or.inl rfl | exact Or.inr (Or.inl rfl) | exact Or.inr (Or.inr rfl))))
    (sss_cons (ss_fld (N := NN) 21 (.cons T.cl_Run T.na_Run_first .nil) (se_var (i := 0) rfl (by first | exact Or.inl rfl | exact Or.inr (Or.inl rfl) | exact Or.inr (Or.inr rfl))) (se_var (i := 5) rfl (by first | exact Or.inl rfl | exact Or.inr (Or.inl rfl) | exact Or.inr (Or.inr rfl))))
    (sss_cons (ss_fld (N := NN) 22 (.cons T.cl_Run T.na_Run_second .nil) (se_var (i := 0) rfl (by first | exact Or.inl rfl | exact Or.inr (Or.inl rfl) | exact Or.inr (Or.inr rfl))) (se_var (i := 6) rfl (by first | exact Or.inl rfl | exact Or.inr (Or.inl rfl) | exact Or.inr (Or.inr rfl))))
    sss_nil))))))
theorem bd_check_program_1_kind {K : PySem.W.Frag} {f : Addr} : Bd NN K (FunD K "check_program" "check_program" (defArgs s_check_program) (defBody s_check_program) (defScope s_check_program) [] [("kind", .non)] f) ["thing", "kind"] 1 ["kind"] (fun xs zs => xs ++ zs) := bd_kw 1 ["kind"] [] (fun us mv ws => us ++ ws) [] (by simp) (fun q h => nomatch h) (fun r1 r2 r3 => (r1.append r3)) (fun _ _ _ _ _ _ r1 r3 => (r1.append r3)) (fun D doc pm an cdv ct us mv ws h1 h2 h3 => match us, mv, ws, h1, h2, h3 with | [_], [], [_], _, _, _ => rfl)
theorem bd_is_integer_1 {K : PySem.W.Frag} {f : Addr} : Bd NN K (FunD K "is_integer" "is_integer" (defArgs s_is_integer) (defBody s_is_integer) (defScope s_is_integer) [] [] f) ["thing"] 1 [] (fun xs _ => xs) := bd_all (fun _ _ _ _ _ _ us hl => match us, hl with | [_], _ => rfl)
theorem bd_assemble_1 {K : PySem.W.Frag} {f : Addr} : Bd NN K (FunD K "assemble" "assemble" (defArgs s_assemble) (defBody s_assemble) (defScope s_assemble) [] [] f) ["program"] 1 [] (fun xs _ => xs) := bd_all (fun _ _ _ _ _ _ us hl => match us, hl with | [_], _ => rfl)
theorem bd_Walk___init___4 {K : PySem.W.Frag} {f : Addr} : Bd NN K (FunD K "__init__" "Walk.__init__" (defArgs s_Walk___init__) (defBody s_Walk___init__) (defScope s_Walk___init__) [] [] f) ["self", "code", "position", "members"] 4 [] (fun xs _ => xs) := bd_all (fun _ _ _ _ _ _ us hl => match us, hl with | [_, _, _, _], _ => rfl)
theorem bd_follow_2 {K : PySem.W.Frag} {f : Addr} : Bd NN K (FunD K "follow" "follow" (defArgs s_follow) (defBody s_follow) (defScope s_follow) [] [] f) ["walk", "limit"] 2 [] (fun xs _ => xs) := bd_all (fun _ _ _ _ _ _ us hl => match us, hl with | [_, _], _ => rfl)
theorem bd_Run___init___3_answer_length {K : PySem.W.Frag} {f : Addr} : Bd NN K (FunD K "__init__" "Run.__init__" (defArgs s_Run___init__) (defBody s_Run___init__) (defScope s_Run___init__) [] [("answer", .non), ("length", .non), ("first", .non), ("second", .non)] f) ["self", "outcome", "asked", "answer", "length", "first", "second"] 3 ["answer", "length"] (fun xs zs => xs ++ zs ++ ([.non, .non] : List Vl)) := bd_kw 3 ["answer", "length"] [("first", .non), ("second", .non)] (fun us mv ws => us ++ ws ++ mv) [.non, .non] (by simp) (by simp) (fun r1 r2 r3 => ((r1.append r3).append r2)) (fun m H xs zs us ws r1 r3 => have r2 : Vrs NN K m H [.non, .non] [.non, .non] := (.cons .non (.cons .non .nil)); ((r1.append r3).append r2)) (fun D doc pm an cdv ct us mv ws h1 h2 h3 => match us, mv, ws, h1, h2, h3 with | [_, _, _], [_, _], [_, _], _, _, _ => ⟨_, _, _, _, _, _, rfl, rfl, ⟨_, _, _, _, _, _, rfl, rfl, rfl⟩⟩)
theorem bd_Run___init___3_length {K : PySem.W.Frag} {f : Addr} : Bd NN K (FunD K "__init__" "Run.__init__" (defArgs s_Run___init__) (defBody s_Run___init__) (defScope s_Run___init__) [] [("answer", .non), ("length", .non), ("first", .non), ("second", .non)] f) ["self", "outcome", "asked", "answer", "length", "first", "second"] 3 ["length"] (fun xs zs => xs ++ ((([.non, .non, .non] : List Vl).drop 0).take 1) ++ zs ++ ((([.non, .non, .non] : List Vl).drop 1).take 2)) := bd_kw 3 ["length"] [("answer", .non), ("first", .non), ("second", .non)] (fun us mv ws => us ++ ((mv.drop 0).take 1) ++ ws ++ ((mv.drop 1).take 2)) [.non, .non, .non] (by simp) (by simp) (fun r1 r2 r3 => (((r1.append ((r2.drop 0).take 1)).append r3).append ((r2.drop 1).take 2))) (fun m H xs zs us ws r1 r3 => have r2 : Vrs NN K m H [.non, .non, .non] [.non, .non, .non] := (.cons .non (.cons .non (.cons .non .nil))); (((r1.append ((r2.drop 0).take 1)).append r3).append ((r2.drop 1).take 2))) (fun D doc pm an cdv ct us mv ws h1 h2 h3 => match us, mv, ws, h1, h2, h3 with | [_, _, _], [_, _, _], [_], _, _, _ => ⟨_, _, _, _, _, _, rfl, rfl, ⟨_, _, _, _, _, _, rfl, rfl, ⟨_, _, _, _, _, _, rfl, rfl, rfl⟩⟩⟩)
theorem bd_Run___init___3 {K : PySem.W.Frag} {f : Addr} : Bd NN K (FunD K "__init__" "Run.__init__" (defArgs s_Run___init__) (defBody s_Run___init__) (defScope s_Run___init__) [] [("answer", .non), ("length", .non), ("first", .non), ("second", .non)] f) ["self", "outcome", "asked", "answer", "length", "first", "second"] 3 [] (fun xs zs => xs ++ ([.non, .non, .non, .non] : List Vl)) := bd_kw 3 [] [("answer", .non), ("length", .non), ("first", .non), ("second", .non)] (fun us mv ws => us ++ mv) [.non, .non, .non, .non] (by simp) (by simp) (fun r1 r2 r3 => (r1.append r2)) (fun m H xs zs us ws r1 r3 => have r2 : Vrs NN K m H [.non, .non, .non, .non] [.non, .non, .non, .non] := (.cons .non (.cons .non (.cons .non (.cons .non .nil)))); (r1.append r2)) (fun D doc pm an cdv ct us mv ws h1 h2 h3 => match us, mv, ws, h1, h2, h3 with | [_, _, _], [_, _, _, _], [], _, _, _ => ⟨_, _, _, _, _, _, rfl, rfl, ⟨_, _, _, _, _, _, rfl, rfl, ⟨_, _, _, _, _, _, rfl, rfl, ⟨_, _, _, _, _, _, rfl, rfl, rfl⟩⟩⟩⟩)
theorem bd_Run___init___3_first_second {K : PySem.W.Frag} {f : Addr} : Bd NN K (FunD K "__init__" "Run.__init__" (defArgs s_Run___init__) (defBody s_Run___init__) (defScope s_Run___init__) [] [("answer", .non), ("length", .non), ("first", .non), ("second", .non)] f) ["self", "outcome", "asked", "answer", "length", "first", "second"] 3 ["first", "second"] (fun xs zs => xs ++ ([.non, .non] : List Vl) ++ zs) := bd_kw 3 ["first", "second"] [("answer", .non), ("length", .non)] (fun us mv ws => us ++ mv ++ ws) [.non, .non] (by simp) (by simp) (fun r1 r2 r3 => ((r1.append r2).append r3)) (fun m H xs zs us ws r1 r3 => have r2 : Vrs NN K m H [.non, .non] [.non, .non] := (.cons .non (.cons .non .nil)); ((r1.append r2).append r3)) (fun D doc pm an cdv ct us mv ws h1 h2 h3 => match us, mv, ws, h1, h2, h3 with | [_, _, _], [_, _], [_, _], _, _, _ => ⟨_, _, _, _, _, _, rfl, rfl, ⟨_, _, _, _, _, _, rfl, rfl, rfl⟩⟩)
noncomputable def b_run (φ : Nat) : ZS := (zSeq (zDrop (xCall 1 2 (fun xs zs => xs ++ zs) 1 (m_check_program φ) (bArgs (aCons (xVar 0) aNil) (aCons (xC (.str "teller")) aNil))))
    (zSeq (zIf (yAnd (yCmp vIsNot (xVar 3) (xC .non)) (yOr (yNot (yV (xCall 1 1 (fun xs _ => xs) 0 (m_is_integer φ) (bArgs (aCons (xVar 3) aNil) aNil)))) (yCmp vLt (xVar 3) (xC (.int 0))))) (zSeq (zRaise 13)
    zNil) zNil)
    (zSeq (zAsg (xMake 33 3 4 (fun xs _ => xs) 0 (m_Walk___init__ φ) (bArgs (aCons (xCall 1 1 (fun xs _ => xs) 0 (m_assemble φ) (bArgs (aCons (xVar 0) aNil) aNil)) (aCons (xVar 1) (aCons (xVar 2) aNil))) aNil)) (gmName 4))
    (zSeq (zAsg (xCall 2 2 (fun xs _ => xs) 0 (m_follow φ) (bArgs (aCons (xVar 4) (aCons (xVar 3) aNil)) aNil)) (gmName 5))
    (zSeq (zAsg (xCB vSorted (aCons (xFld 15 [33] (xVar 4)) aNil)) (gmName 6))
    (zSeq (zIf (yCmp vIsNot (xFld 8 [33] (xVar 4)) (xC .non)) (zSeq (zRet (xMake 44 2 7 (fun xs zs => xs ++ zs ++ ([.non, .non] : List Vl)) 2 (m_Run___init__ φ) (bArgs (aCons (xC (.str "answered")) (aCons (xVar 6) aNil)) (aCons (xFld 8 [33] (xVar 4)) (aCons (xFld 13 [33] (xVar 4)) aNil)))))
    zNil) zNil)
    (zSeq (zIf (yV (xMeth ((33, ⟨0, 1, 0, (fun xs _ => xs), (m_Walk_is_over φ)⟩) :: []) (xVar 4) (bArgs aNil aNil))) (zSeq (zRet (xMake 44 2 7 (fun xs zs => xs ++ ((([.non, .non, .non] : List Vl).drop 0).take 1) ++ zs ++ ((([.non, .non, .non] : List Vl).drop 1).take 2)) 1 (m_Run___init__ φ) (bArgs (aCons (xC (.str "ended")) (aCons (xVar 6) aNil)) (aCons (xFld 13 [33] (xVar 4)) aNil))))
    zNil) zNil)
    (zSeq (zIf (yCmp vIsNot (xVar 3) (xC .non)) (zSeq (zRet (xMake 44 2 7 (fun xs zs => xs ++ ([.non, .non, .non, .non] : List Vl)) 0 (m_Run___init__ φ) (bArgs (aCons (xC (.str "running")) (aCons (xVar 6) aNil)) aNil)))
    zNil) zNil)
    (zSeq (zRet (xMake 44 2 7 (fun xs zs => xs ++ ([.non, .non] : List Vl) ++ zs) 2 (m_Run___init__ φ) (bArgs (aCons (xC (.str "silent")) (aCons (xVar 6) aNil)) (aCons (xOp vIx (xVar 5) (xMeth ((33, ⟨0, 1, 0, (fun xs _ => xs), (m_Walk_state φ)⟩) :: []) (xVar 4) (bArgs aNil aNil))) (aCons (xFld 13 [33] (xVar 4)) aNil)))))
    zNil)))))))))
noncomputable def m_run (φ : Nat) : List Vl → Sto → Out Vl := runBX 7 (b_run φ)
theorem fk_run {P : Program} {w : World} {K : PySem.W.Frag} {mg : Str → Option Value} {base : Heap} (T : Txt w K mg) (φ : Nat) : FnM NN P w K mg base (L2.CX P w) 20 (He.ga K "run") (FunD K "run" "run" (defArgs s_run) (defBody s_run) (defScope s_run) [] [("limit", .non)] (He.ga K "run")) ["program", "position", "members", "limit"] (m_run φ) :=
  fn_mkX (k := 19) (b := b_run φ) (L := N_run) T.F_run sc_run fun cdv A outer s H E hr => (sss_cons (ss_expr (se_call (N := NN) (fk_check_program (P := P) (base := base) T φ) bd_check_program_1_kind (hr.mono (by first | decide | omega)) rfl T.g_check_program (fun σ => passAt (takes_of rfl rfl rfl rfl) σ) (sb_cons (sa_cons (se_var (i := 0) rfl (by first | exact Or.inl rfl | exact Or.inr (Or.inl rfl) | exact Or.inr (Or.inr rfl))) sa_nil) (sk_cons se_str sk_nil))))
    (sss_cons (ss_if (SW.st (sw_and (st_cmp opm_isnot (se_var (i := 3) rfl (by first | exact Or.inl rfl | exact Or.inr (Or.inl rfl) | exact Or.inr (Or.inr rfl))) se_non (nomark _)) (sw_and1 (SW.st (sw_or (st_not (st_val (se_call (N := NN) (fk_is_integer (P := P) (base := base) T φ) bd_is_integer_1 (hr.mono (by first | decide | omega)) rfl T.g_is_integer pas0 (sb_cons (sa_cons (se_var (i := 3) rfl (by first | exact Or.inl rfl | exact Or.inr (Or.inl rfl) | exact Or.inr (Or.inr rfl))) sa_nil) sk_nil)))) (sw_or1 (st_cmp opm_lt (se_var (i := 3) rfl (by first | exact Or.inl rfl | exact Or.inr (Or.inl rfl) | exact Or.inr (Or.inr rfl))) se_int (nomark _)))))))) (sss_cons (ss_raise0 (N := NN) 13 rfl (takes_of rfl rfl rfl rfl) PySem.F.excBase_ValueError T.x_BadSteps T.g_BadSteps rfl)
    sss_nil) sss_nil)
    (sss_cons (ss_set (i := 4) sc_run.nd rfl (by first | exact Or.inl rfl | exact Or.inr rfl) (se_make (N := NN) (c := 33) (fk_Walk___init__ (P := P) (base := base) T φ) T.mk_Walk bd_Walk___init___4 (hr.mono (by first | decide | omega)) rfl T.g_Walk pas0 (sb_cons (sa_cons (se_call (N := NN) (fk_assemble (P := P) (base := base) T φ) bd_assemble_1 (hr.mono (by first | decide | omega)) rfl T.g_assemble (fun σ => passAt (takes_of rfl rfl rfl rfl) σ) (sb_cons (sa_cons (se_var (i := 0) rfl (by first | exact Or.inl rfl | exact Or.inr (Or.inl rfl) | exact Or.inr (Or.inr rfl))) sa_nil) sk_nil)) (sa_cons (se_var (i := 1) rfl (by first | exact Or.inl rfl | exact Or.inr (Or.inl rfl) | exact Or.inr (Or.inr rfl))) (sa_cons (se_var (i := 2) rfl (by first | exact Or.inl rfl | exact Or.inr (Or.inl rfl) | exact Or.inr (Or.inr rfl))) sa_nil))) sk_nil)))
    (sss_cons (ss_set (i := 5) sc_run.nd rfl (by first | exact Or.inl rfl | exact Or.inr rfl) (se_call (N := NN) (fk_follow (P := P) (base := base) T φ) bd_follow_2 (hr.mono (by first | decide | omega)) rfl T.g_follow pas0 (sb_cons (sa_cons (se_var (i := 4) rfl (by first | exact Or.inl rfl | exact Or.inr (Or.inl rfl) | exact Or.inr (Or.inr rfl))) (sa_cons (se_var (i := 3) rfl (by first | exact Or.inl rfl | exact Or.inr (Or.inl rfl) | exact Or.inr (Or.inr rfl))) sa_nil)) sk_nil)))
    (sss_cons (ss_set (i := 6) sc_run.nd rfl (by first | exact Or.inl rfl | exact Or.inr rfl) (se_callB (cm_sorted rfl) rfl T.m_sorted boot_sorted (sa_cons (se_fld (N := NN) 15 (.cons T.cl_Walk T.na_Walk_requested .nil) (se_var (i := 4) rfl (by first | exact Or.inl rfl | exact Or.inr (Or.inl rfl) | exact Or.inr (Or.inr rfl)))) sa_nil)))
    (sss_cons (ss_if (st_cmp opm_isnot (se_fld (N := NN) 8 (.cons T.cl_Walk T.na_Walk_replied .nil) (se_var (i := 4) rfl (by first | exact Or.inl rfl | exact Or.inr (Or.inl rfl) | exact Or.inr (Or.inr rfl)))) se_non (nomark _)) (sss_cons (ss_ret (se_make (N := NN) (c := 44) (fk_Run___init__ (P := P) (base := base) T φ) T.mk_Run bd_Run___init___3_answer_length (hr.mono (by first | decide | omega)) rfl T.g_Run pas0 (sb_cons (sa_cons se_str (sa_cons (se_var (i := 6) rfl (by first | exact Or.inl rfl | exact Or.inr (Or.inl rfl) | exact Or.inr (Or.inr rfl))) sa_nil)) (sk_cons (se_fld (N := NN) 8 (.cons T.cl_Walk T.na_Walk_replied .nil) (se_var (i := 4) rfl (by first | exact Or.inl rfl | exact Or.inr (Or.inl rfl) | exact Or.inr (Or.inr rfl)))) (sk_cons (se_fld (N := NN) 13 (.cons T.cl_Walk T.na_Walk_steps .nil) (se_var (i := 4) rfl (by first | exact Or.inl rfl | exact Or.inr (Or.inl rfl) | exact Or.inr (Or.inr rfl)))) sk_nil)))))
    sss_nil) sss_nil)
    (sss_cons (ss_if (st_val (se_meth (N := NN) (k := 1) (.cons ⟨_, _, _, _, (fk_Walk_is_over (P := P) (base := base) T φ).mono (by first | decide | omega), bd_Walk_is_over_1, T.cl_Walk, T.me_Walk_is_over, rfl, rfl, pas0⟩ .nil) (nof (by decide +kernel)) (hr.mono (by first | decide | omega)) (se_var (i := 4) rfl (by first | exact Or.inl rfl | exact Or.inr (Or.inl rfl) | exact Or.inr (Or.inr rfl))) (sb_nil sk_nil))) (sss_cons (ss_ret (se_make (N := NN) (c := 44) (fk_Run___init__ (P := P) (base := base) T φ) T.mk_Run bd_Run___init___3_length (hr.mono (by first | decide | omega)) rfl T.g_Run pas0 (sb_cons (sa_cons se_str (sa_cons (se_var (i := 6) rfl (by first | exact Or.inl rfl | exact Or.inr (Or.inl rfl) | exact Or.inr (Or.inr rfl))) sa_nil)) (sk_cons (se_fld (N := NN) 13 (.cons T.cl_Walk T.na_Walk_steps .nil) (se_var (i := 4) rfl (by first | exact Or.inl rfl | exact Or.inr (Or.inl rfl) | exact Or.inr (Or.inr rfl)))) sk_nil))))
    sss_nil) sss_nil)
    (sss_cons (ss_if (st_cmp opm_isnot (se_var (i := 3) rfl (by first | exact Or.inl rfl | exact Or.inr (Or.inl rfl) | exact Or.inr (Or.inr rfl))) se_non (nomark _)) (sss_cons (ss_ret (se_make (N := NN) (c := 44) (fk_Run___init__ (P := P) (base := base) T φ) T.mk_Run bd_Run___init___3 (hr.mono (by first | decide | omega)) rfl T.g_Run pas0 (sb_cons (sa_cons se_str (sa_cons (se_var (i := 6) rfl (by first | exact Or.inl rfl | exact Or.inr (Or.inl rfl) | exact Or.inr (Or.inr rfl))) sa_nil)) sk_nil)))
    sss_nil) sss_nil)
    (sss_cons (ss_ret (se_make (N := NN) (c := 44) (fk_Run___init__ (P := P) (base := base) T φ) T.mk_Run bd_Run___init___3_first_second (hr.mono (by first | decide | omega)) rfl T.g_Run pas0 (sb_cons (sa_cons se_str (sa_cons (se_var (i := 6) rfl (by first | exact Or.inl rfl | exact Or.inr (Or.inl rfl) | exact Or.inr (Or.inr rfl))) sa_nil)) (sk_cons (se_ix (ixm hr.units) (se_var (i := 5) rfl (by first | exact Or.inl rfl | exact Or.inr (Or.inl rfl) | exact Or.inr (Or.inr rfl))) (se_meth (N := NN) (k := 1) (.cons ⟨_, _, _, _, (fk_Walk_state (P := P) (base := base) T φ).mono (by first | decide | omega), bd_Walk_state_1, T.cl_Walk, T.me_Walk_state, rfl, rfl, pas0⟩ .nil) (nof (by decide +kernel)) (hr.mono (by first | decide | omega)) (se_var (i := 4) rfl (by first | exact Or.inl rfl | exact Or.inr (Or.inl rfl) | exact Or.inr (Or.inr rfl))) (sb_nil sk_nil)) (fun _ _ => rfl)) (sk_cons (se_fld (N := NN) 13 (.cons T.cl_Walk T.na_Walk_steps .nil) (se_var (i := 4) rfl (by first | exact Or.inl rfl | exact Or.inr (Or.inl rfl) | exact Or.inr (Or.inr rfl)))) sk_nil)))))
    sss_nil)))))))))
noncomputable def b__law_whole (φ : Nat) : ZS := (zSeq (zRet (xAnd (xCB vIsi (aCons (xVar 0) (aCons (xC (.ty "int")) aNil))) (xNot (xCB vIsi (aCons (xVar 0) (aCons (xC (.ty "bool")) aNil))))))
    zNil)
noncomputable def m__law_whole (φ : Nat) : List Vl → Sto → Out Vl := runB0 1 (b__law_whole φ)
theorem fk__law_whole {P : Program} {w : World} {K : PySem.W.Frag} {mg : Str → Option Value} {base : Heap} (T : Txt w K mg) (φ : Nat) : FnM NN P w K mg base CX0 1 (He.ga K "_law_whole") (FunD K "_law_whole" "_law_whole" (defArgs s__law_whole) (defBody s__law_whole) (defScope s__law_whole) [] [] (He.ga K "_law_whole")) ["_law_thing"] (m__law_whole φ) :=
  fn_mk0 (k := 0) (b := b__law_whole φ) (L := N__law_whole) T.F__law_whole sc__law_whole fun cdv A outer s H E hr => SSs.nox (sss_cons (ss_ret (se_and (se_callB cm_isi rfl T.m_isinstance boot_isinstance (sa_cons (se_var (i := 0) rfl (by first | exact Or.inl rfl | exact Or.inr (Or.inl rfl) | exact Or.inr (Or.inr rfl))) (sa_cons (se_bltn rfl T.m_int boot_int) sa_nil))) (se_one (se_not (se_callB cm_isi rfl T.m_isinstance boot_isinstance (sa_cons (se_var (i := 0) rfl (by first | exact Or.inl rfl | exact Or.inr (Or.inl rfl) | exact Or.inr (Or.inr rfl))) (sa_cons (se_bltn rfl T.m_bool boot_bool) sa_nil)))))))
    sss_nil)
theorem bd__law_whole_1 {K : PySem.W.Frag} {f : Addr} : Bd NN K (FunD K "_law_whole" "_law_whole" (defArgs s__law_whole) (defBody s__law_whole) (defScope s__law_whole) [] [] f) ["_law_thing"] 1 [] (fun xs _ => xs) := bd_all (fun _ _ _ _ _ _ us hl => match us, hl with | [_], _ => rfl)
noncomputable def b__law_told (φ : Nat) : ZS := (zSeq (zAsg (xLst (aCons (xFld 19 [44] (xVar 0)) (aCons (xFld 20 [44] (xVar 0)) (aCons (xFld 21 [44] (xVar 0)) (aCons (xFld 22 [44] (xVar 0)) aNil))))) (gmName 1))
    (zSeq (zIf (yOr (yNot (yV (xCB vAll (aCons (xLc (iAny (xVar 1)) (gmName 2) yYes (xOr (xOp vIs (xVar 2) (xC .non)) (xCall 1 1 (fun xs _ => xs) 0 (m__law_whole φ) (bArgs (aCons (xVar 2) aNil) aNil))) [2]) aNil)))) (yNot (yV (xCB vIsi (aCons (xFld 18 [44] (xVar 0)) (aCons (xC (.ty "list")) aNil)))))) (zSeq (zRet (xC .non))
    zNil) zNil)
    (zSeq (zIf (yOr (yNot (yV (xCB vIsi (aCons (xFld 17 [44] (xVar 0)) (aCons (xC (.ty "str")) aNil))))) (yNot (yV (xCB vAll (aCons (xLc (iAny (xFld 18 [44] (xVar 0))) (gmName 3) yYes (xCall 1 1 (fun xs _ => xs) 0 (m__law_whole φ) (bArgs (aCons (xVar 3) aNil) aNil)) [3]) aNil))))) (zSeq (zRet (xC .non))
    zNil) zNil)
    (zSeq (zRet (xTup (aCons (xFld 17 [44] (xVar 0)) (aCons (xFld 19 [44] (xVar 0)) (aCons (xFld 20 [44] (xVar 0)) (aCons (xFld 21 [44] (xVar 0)) (aCons (xFld 22 [44] (xVar 0)) (aCons (xCB vList (aCons (xFld 18 [44] (xVar 0)) aNil)) aNil))))))))
    zNil))))
noncomputable def m__law_told (φ : Nat) : List Vl → Sto → Out Vl := runB0 4 (b__law_told φ)
theorem fk__law_told {P : Program} {w : World} {K : PySem.W.Frag} {mg : Str → Option Value} {base : Heap} (T : Txt w K mg) (φ : Nat) : FnM NN P w K mg base CX0 2 (He.ga K "_law_told") (FunD K "_law_told" "_law_told" (defArgs s__law_told) (defBody s__law_told) (defScope s__law_told) [] [] (He.ga K "_law_told")) ["_law_found"] (m__law_told φ) :=
  fn_mk0 (k := 1) (b := b__law_told φ) (L := N__law_told) T.F__law_told sc__law_told fun cdv A outer s H E hr => SSs.nox (sss_cons (ss_set (i := 1) sc__law_told.nd rfl (by first | exact Or.inl rfl | exact Or.inr rfl) (se_lst (sa_cons (se_fld (N := NN) 19 (.cons T.cl_Run T.na_Run_answer .nil) (se_var (i := 0) rfl (by first | exact Or.inl rfl | exact Or.inr (Or.inl rfl) | exact Or.inr (Or.inr rfl)))) (sa_cons (se_fld (N := NN) 20 (.cons T.cl_Run T.na_Run_length .nil) (se_var (i := 0) rfl (by first | exact Or.inl rfl | exact Or.inr (Or.inl rfl) | exact Or.inr (Or.inr rfl)))) (sa_cons (se_fld (N := NN) 21 (.cons T.cl_Run T.na_Run_first .nil) (se_var (i := 0) rfl (by first | exact Or.inl rfl | exact Or.inr (Or.inl rfl) | exact Or.inr (Or.inr rfl)))) (sa_cons (se_fld (N := NN) 22 (.cons T.cl_Run T.na_Run_second .nil) (se_var (i := 0) rfl (by first | exact Or.inl rfl | exact Or.inr (Or.inl rfl) | exact Or.inr (Or.inr rfl)))) sa_nil))))))
    (sss_cons (ss_if (SW.st (sw_or (st_not (st_val (se_callB (cm_all rfl) rfl T.m_all boot_all (sa_cons (se_lc (own := [("_law_number", 2)]) rfl sc__law_told.nd (si_any (se_var (i := 1) rfl (by first | exact Or.inl rfl | exact Or.inr (Or.inl rfl) | exact Or.inr (Or.inr rfl)))) (blkOk_by (own := [("_law_number", 2)]) (N := N__law_told) (sc := defScope s__law_told) (by decide +kernel)) (sgv_name (by decide)) (fun _ _ _ _ _ => (pg_name (i := 2) sc__law_told.nd rfl (by first | exact Or.inl rfl | exact Or.inr rfl))) (fun _ _ _ _ _ => (se_or (se_cmp opm_is (se_var (i := 2) rfl (by first | exact Or.inl rfl | exact Or.inr (Or.inl rfl) | exact Or.inr (Or.inr rfl))) se_non (nomark _)) (se_one (se_call (N := NN) (fk__law_whole (P := P) (base := base) T φ) bd__law_whole_1 (hr.mono (by first | decide | omega)) rfl T.g__law_whole pas0 (sb_cons (sa_cons (se_var (i := 2) rfl (by first | exact Or.inl rfl | exact Or.inr (Or.inl rfl) | exact Or.inr (Or.inr rfl))) sa_nil) sk_nil)))))) sa_nil)))) (sw_or1 (st_not (st_val (se_callB cm_isi rfl T.m_isinstance boot_isinstance (sa_cons (se_fld (N := NN) 18 (.cons T.cl_Run T.na_Run_asked .nil) (se_var (i := 0) rfl (by first | exact Or.inl rfl | exact Or.inr (Or.inl rfl) | exact Or.inr (Or.inr rfl)))) (sa_cons (se_bltn rfl T.m_list boot_list) sa_nil)))))))) (sss_cons (ss_ret se_non)
    sss_nil) sss_nil)
    (sss_cons (ss_if (SW.st (sw_or (st_not (st_val (se_callB cm_isi rfl T.m_isinstance boot_isinstance (sa_cons (se_fld (N := NN) 17 (.cons T.cl_Run T.na_Run_outcome .nil) (se_var (i := 0) rfl (by first | exact Or.inl rfl | exact Or.inr (Or.inl rfl) | exact Or.inr (Or.inr rfl)))) (sa_cons (se_bltn rfl T.m_str boot_str) sa_nil))))) (sw_or1 (st_not (st_val (se_callB (cm_all rfl) rfl T.m_all boot_all (sa_cons (se_lc (own := [("_law_place", 3)]) rfl sc__law_told.nd (si_any (se_fld (N := NN) 18 (.cons T.cl_Run T.na_Run_asked .nil) (se_var (i := 0) rfl (by first | exact Or.inl rfl | exact Or.inr (Or.inl rfl) | exact Or.inr (Or.inr rfl))))) (blkOk_by (own := [("_law_place", 3)]) (N := N__law_told) (sc := defScope s__law_told) (by decide +kernel)) (sgv_name (by decide)) (fun _ _ _ _ _ => (pg_name (i := 3) sc__law_told.nd rfl (by first | exact Or.inl rfl | exact Or.inr rfl))) (fun _ _ _ _ _ => (se_call (N := NN) (fk__law_whole (P := P) (base := base) T φ) bd__law_whole_1 (hr.mono (by first | decide | omega)) rfl T.g__law_whole pas0 (sb_cons (sa_cons (se_var (i := 3) rfl (by first | exact Or.inl rfl | exact Or.inr (Or.inl rfl) | exact Or.inr (Or.inr rfl))) sa_nil) sk_nil)))) sa_nil))))))) (sss_cons (ss_ret se_non)
    sss_nil) sss_nil)
    (sss_cons (ss_ret (se_tup (sa_cons (se_fld (N := NN) 17 (.cons T.cl_Run T.na_Run_outcome .nil) (se_var (i := 0) rfl (by first | exact Or.inl rfl | exact Or.inr (Or.inl rfl) | exact Or.inr (Or.inr rfl)))) (sa_cons (se_fld (N := NN) 19 (.cons T.cl_Run T.na_Run_answer .nil) (se_var (i := 0) rfl (by first | exact Or.inl rfl | exact Or.inr (Or.inl rfl) | exact Or.inr (Or.inr rfl)))) (sa_cons (se_fld (N := NN) 20 (.cons T.cl_Run T.na_Run_length .nil) (se_var (i := 0) rfl (by first | exact Or.inl rfl | exact Or.inr (Or.inl rfl) | exact Or.inr (Or.inr rfl)))) (sa_cons (se_fld (N := NN) 21 (.cons T.cl_Run T.na_Run_first .nil) (se_var (i := 0) rfl (by first | exact Or.inl rfl | exact Or.inr (Or.inl rfl) | exact Or.inr (Or.inr rfl)))) (sa_cons (se_fld (N := NN) 22 (.cons T.cl_Run T.na_Run_second .nil) (se_var (i := 0) rfl (by first | exact Or.inl rfl | exact Or.inr (Or.inl rfl) | exact Or.inr (Or.inr rfl)))) (sa_cons (se_callTy (cm_list rfl) rfl T.m_list boot_list (sa_cons (se_fld (N := NN) 18 (.cons T.cl_Run T.na_Run_asked .nil) (se_var (i := 0) rfl (by first | exact Or.inl rfl | exact Or.inr (Or.inl rfl) | exact Or.inr (Or.inr rfl)))) sa_nil)) sa_nil))))))))
    sss_nil))))
noncomputable def l1__law_rounds (φ : Nat)  : ZS := (zSeq (zIf (yCmp vEq (xVar 3) (xVar 2)) (zSeq (zRet (xVar 4))
    zNil) zNil)
    (zSeq (zAsg (xOp vMod (xOp vAdd (xVar 3) (xVar 1)) (xC (.int 16))) (gmName 3))
    zNil))
noncomputable def b__law_rounds (φ : Nat) : ZS := (zSeq (zAsg (xVar 0) (gmName 3))
    (zSeq (zFor (iRange1 (aCons (xC (.int 17)) aNil)) (gmName 4) (l1__law_rounds φ))
    (zSeq (zRet (xC .non))
    zNil)))
noncomputable def m__law_rounds (φ : Nat) : List Vl → Sto → Out Vl := runB0 5 (b__law_rounds φ)
theorem fk__law_rounds {P : Program} {w : World} {K : PySem.W.Frag} {mg : Str → Option Value} {base : Heap} (T : Txt w K mg) (φ : Nat) : FnM NN P w K mg base CX0 1 (He.ga K "_law_rounds") (FunD K "_law_rounds" "_law_rounds" (defArgs s__law_rounds) (defBody s__law_rounds) (defScope s__law_rounds) [] [] (He.ga K "_law_rounds")) ["_law_start", "_law_by", "_law_goal"] (m__law_rounds φ) :=
  fn_mk0 (k := 0) (b := b__law_rounds φ) (L := N__law_rounds) T.F__law_rounds sc__law_rounds fun cdv A outer s H E hr => SSs.nox (sss_cons (ss_set (i := 3) sc__law_rounds.nd rfl (by first | exact Or.inl rfl | exact Or.inr rfl) (se_var (i := 0) rfl (by first | exact Or.inl rfl | exact Or.inr (Or.inl rfl) | exact Or.inr (Or.inr rfl))))
    (sss_cons (ss_for PassesOwn.never rfl (si_range1 rfl T.m_range (sa_cons se_int sa_nil)) (sg_name (i := 4) sc__law_rounds.nd rfl (by first | exact Or.inl rfl | exact Or.inr rfl)) (sss_cons (ss_if (st_cmp (opm_eq hr.units) (se_var (i := 3) rfl (by first | exact Or.inl rfl | exact Or.inr (Or.inl rfl) | exact Or.inr (Or.inr rfl))) (se_var (i := 2) rfl (by first | exact Or.inl rfl | exact Or.inr (Or.inl rfl) | exact Or.inr (Or.inr rfl))) (nomark _)) (sss_cons (ss_ret (se_var (i := 4) rfl (by first | exact Or.inl rfl | exact Or.inr (Or.inl rfl) | exact Or.inr (Or.inr rfl))))
    sss_nil) sss_nil)
    (sss_cons (ss_set (i := 3) sc__law_rounds.nd rfl (by first | exact Or.inl rfl | exact Or.inr rfl) (se_op opm_mod (se_op opm_add (se_var (i := 3) rfl (by first | exact Or.inl rfl | exact Or.inr (Or.inl rfl) | exact Or.inr (Or.inr rfl))) (se_var (i := 1) rfl (by first | exact Or.inl rfl | exact Or.inr (Or.inl rfl) | exact Or.inr (Or.inr rfl)))) se_int))
    sss_nil)))
    (sss_cons (ss_ret se_non)
    sss_nil)))
theorem bd__law_bag_2 {K : PySem.W.Frag} {f : Addr} : Bd NN K (FunD K "_law_bag" "_law_bag" (defArgs s__law_bag) (defBody s__law_bag) (defScope s__law_bag) [] [] f) ["_law_script", "_law_k"] 2 [] (fun xs _ => xs) := bd_all (fun _ _ _ _ _ _ us hl => match us, hl with | [_, _], _ => rfl)
theorem bd__law_loop_1 {K : PySem.W.Frag} {f : Addr} : Bd NN K (FunD K "_law_loop" "_law_loop" (defArgs s__law_loop) (defBody s__law_loop) (defScope s__law_loop) [] [] f) ["_law_bag_here"] 1 [] (fun xs _ => xs) := bd_all (fun _ _ _ _ _ _ us hl => match us, hl with | [_], _ => rfl)
noncomputable def t2_law (φ : Nat)  : XT := (yAnd (yCmp vGt (xVar 11) (xC (.int 1))) (yCmp vEq (xOp vMod (xOp vMul (xVar 6) (xOp vDiv (xVar 11) (xC (.int 2)))) (xC (.int 16))) (xC (.int 0))))
noncomputable def l2_law (φ : Nat)  : ZS := (zSeq (zAsg (xOp vDiv (xVar 11) (xC (.int 2))) (gmName 11))
    zNil)
theorem bd_run_3 {K : PySem.W.Frag} {f : Addr} : Bd NN K (FunD K "run" "run" (defArgs s_run) (defBody s_run) (defScope s_run) [] [("limit", .non)] f) ["program", "position", "members", "limit"] 3 [] (fun xs zs => xs ++ ([.non] : List Vl)) := bd_kw 3 [] [("limit", .non)] (fun us mv ws => us ++ mv) [.non] (by simp) (by simp) (fun r1 r2 r3 => (r1.append r2)) (fun m H xs zs us ws r1 r3 => have r2 : Vrs NN K m H [.non] [.non] := (.cons .non .nil); (r1.append r2)) (fun D doc pm an cdv ct us mv ws h1 h2 h3 => match us, mv, ws, h1, h2, h3 with | [_, _, _], [_], [], _, _, _ => ⟨_, _, _, _, _, _, rfl, rfl, rfl⟩)
theorem bd__law_told_1 {K : PySem.W.Frag} {f : Addr} : Bd NN K (FunD K "_law_told" "_law_told" (defArgs s__law_told) (defBody s__law_told) (defScope s__law_told) [] [] f) ["_law_found"] 1 [] (fun xs _ => xs) := bd_all (fun _ _ _ _ _ _ us hl => match us, hl with | [_], _ => rfl)
theorem bd__law_rounds_3 {K : PySem.W.Frag} {f : Addr} : Bd NN K (FunD K "_law_rounds" "_law_rounds" (defArgs s__law_rounds) (defBody s__law_rounds) (defScope s__law_rounds) [] [] f) ["_law_start", "_law_by", "_law_goal"] 3 [] (fun xs _ => xs) := bd_all (fun _ _ _ _ _ _ us hl => match us, hl with | [_, _, _], _ => rfl)
noncomputable def l1_law (φ : Nat)  : ZS := (zSeq (zAsg (xCall 2 2 (fun xs _ => xs) 0 (m__law_bag φ) (bArgs (aCons (xVar 0) (aCons (xVar 1) aNil)) aNil)) (gmName 2))
    (zSeq (zAsg (xCall 1 1 (fun xs _ => xs) 0 (m__law_loop φ) (bArgs (aCons (xVar 2) aNil) aNil)) (gmTup 3 (gmsCons (gmName 3) (gmsCons (gmName 4) (gmsCons (gmName 5) gmsNil)))))
    (zSeq (zAsg (xCall 2 2 (fun xs _ => xs) 0 (m__law_draw φ) (bArgs (aCons (xVar 2) (aCons (xC (.int 16)) aNil)) aNil)) (gmName 6))
    (zSeq (zAsg (xCall 1 1 (fun xs _ => xs) 0 (m__law_steps φ) (bArgs (aCons (xVar 2) aNil) aNil)) (gmName 7))
    (zSeq (zAsg (xOp vAdd (xC (.int 16)) (xCall 2 2 (fun xs _ => xs) 0 (m__law_large φ) (bArgs (aCons (xVar 2) (aCons (xOp vSub (xOp vPow (xC (.int 10)) (xC (.int 60))) (xC (.int 32))) aNil)) aNil))) (gmName 8))
    (zSeq (zAsg (xOp vIx (xC (.str "+-")) (xCall 2 2 (fun xs _ => xs) 0 (m__law_draw φ) (bArgs (aCons (xVar 2) (aCons (xC (.int 2)) aNil)) aNil))) (gmName 9))
    (zSeq (zAsg (xTup (aCons (xTup (aCons (xC (.str "ask")) (aCons (xVar 9) (aCons (xC (.str "a")) (aCons (xC (.str "b")) aNil))))) (aCons (xTup (aCons (xC (.str "wait")) (aCons (xVar 7) aNil))) (aCons (xTup (aCons (xC (.str "add")) (aCons (xC (.str "a")) (aCons (xVar 6) aNil)))) aNil)))) (gmName 10))
    (zSeq (zAsg (xC (.int 16)) (gmName 11))
    (zSeq (zWhile φ (t2_law φ) (l2_law φ))
    (zSeq (zAsg (xLc (iRange1 (aCons (xVar 11) aNil)) (gmName 20) yYes (xOp vMod (xOp vAdd (xVar 5) (xOp vMul (xVar 6) (xVar 20))) (xC (.int 16))) [20]) (gmName 12))
    (zSeq (zAsg (xCB vSorted (aCons (xLc (iAny (xVar 12)) (gmName 21) yYes (xOp vIx (xLst (aCons (xOp vSub (xVar 8) (xVar 21)) (aCons (xOp vAdd (xVar 8) (xVar 21)) aNil))) (xCB vInt (aCons (xOp vEq (xVar 9) (xC (.str "+"))) aNil))) [21]) aNil)) (gmName 13))
    (zSeq (zAsg (xCall 3 4 (fun xs zs => xs ++ ([.non] : List Vl)) 0 (m_run φ) (bArgs (aCons (xTup (aCons (xC (.str "teller")) (aCons (xOp vAdd (xCB vTuple (aCons (xVar 3) aNil)) (xTup (aCons (xTup (aCons (xC (.str "while")) (aCons (xTup (aCons (xC (.str "b")) (aCons (xC (.str "==")) (aCons (xC (.int 0)) aNil)))) (aCons (xVar 10) aNil)))) aNil))) aNil))) (aCons (xVar 8) (aCons (xLst aNil) aNil))) aNil)) (gmName 14))
    (zSeq (zAsg (xTup (aCons (xC (.str "silent")) (aCons (xC .non) (aCons (xC .non) (aCons (xVar 4) (aCons (xOp vAdd (xVar 4) (xOp vMul (xVar 11) (xOp vAdd (xVar 7) (xC (.int 4))))) (aCons (xVar 13) aNil))))))) (gmName 15))
    (zSeq (zIf (yCmp vNe (xCall 1 1 (fun xs _ => xs) 0 (m__law_told φ) (bArgs (aCons (xVar 14) aNil) aNil)) (xVar 15)) (zSeq (zRet (xC (.bl false)))
    zNil) zNil)
    (zSeq (zAsg (xCall 2 2 (fun xs _ => xs) 0 (m__law_draw φ) (bArgs (aCons (xVar 2) (aCons (xC (.int 16)) aNil)) aNil)) (gmName 16))
    (zSeq (zAsg (xCall 3 3 (fun xs _ => xs) 0 (m__law_rounds φ) (bArgs (aCons (xVar 5) (aCons (xVar 6) (aCons (xVar 16) aNil))) aNil)) (gmName 17))
    (zSeq (zAsg (xOp vAdd (xCB vTuple (aCons (xVar 3) aNil)) (xTup (aCons (xTup (aCons (xC (.str "while")) (aCons (xTup (aCons (xC (.str "a")) (aCons (xC (.str "!=")) (aCons (xVar 16) aNil)))) (aCons (xTup (aCons (xTup (aCons (xC (.str "wait")) (aCons (xVar 7) aNil))) (aCons (xTup (aCons (xC (.str "add")) (aCons (xC (.str "a")) (aCons (xVar 6) aNil)))) aNil))) aNil)))) (aCons (xTup (aCons (xC (.str "answer")) (aCons (xC (.int 1)) aNil))) aNil)))) (gmName 18))
    (zSeq (zAsg (xCall 1 1 (fun xs _ => xs) 0 (m__law_told φ) (bArgs (aCons (xCall 3 4 (fun xs zs => xs ++ ([.non] : List Vl)) 0 (m_run φ) (bArgs (aCons (xTup (aCons (xC (.str "teller")) (aCons (xVar 18) aNil))) (aCons (xVar 8) (aCons (xLst (aCons (xVar 8) aNil)) aNil))) aNil)) aNil) aNil)) (gmName 19))
    (zSeq (zAsg (xTup (aCons (xC (.str "silent")) (aCons (xC .non) (aCons (xC .non) (aCons (xVar 4) (aCons (xOp vAdd (xVar 4) (xOp vMul (xVar 11) (xOp vAdd (xVar 7) (xC (.int 3))))) (aCons (xLst aNil) aNil))))))) (gmName 15))
    (zSeq (zIf (yCmp vIsNot (xVar 17) (xC .non)) (zSeq (zAsg (xTup (aCons (xC (.str "answered")) (aCons (xC (.int 1)) (aCons (xOp vAdd (xOp vAdd (xVar 4) (xOp vMul (xVar 17) (xOp vAdd (xVar 7) (xC (.int 3))))) (xC (.int 2))) (aCons (xC .non) (aCons (xC .non) (aCons (xLst aNil) aNil))))))) (gmName 15))
    zNil) zNil)
    (zSeq (zIf (yCmp vNe (xVar 19) (xVar 15)) (zSeq (zRet (xC (.bl false)))
    zNil) zNil)
    zNil)))))))))))))))))))))
noncomputable def b_law (φ : Nat) : ZS := (zSeq (zFor (iRange1 (aCons (xCB vMax (aCons (xC (.int 2)) (aCons (xCB vMin (aCons (xC (.int 12)) (aCons (xCB vLen (aCons (xVar 0) aNil)) aNil))) aNil))) aNil)) (gmName 1) (l1_law φ))
    (zSeq (zRet (xC (.bl true)))
    zNil))
noncomputable def m_law (φ : Nat) : List Vl → Sto → Out Vl := runBX 22 (b_law φ)
theorem fk_law {P : Program} {w : World} {K : PySem.W.Frag} {mg : Str → Option Value} {base : Heap} (T : Txt w K mg) (φ : Nat) : FnM NN P w K mg base (L2.CX P w) 21 (He.ga K "law") (FunD K "law" "law" (defArgs s_law) (defBody s_law) (defScope s_law) [] [] (He.ga K "law")) ["_law_script"] (m_law φ) :=
  fn_mkX (k := 20) (b := b_law φ) (L := N_law) T.F_law sc_law fun cdv A outer s H E hr => (sss_cons (ss_for (passes_of rfl) rfl (si_range1 rfl T.m_range (sa_cons (se_callB (cm_max rfl) rfl T.m_max boot_max (sa_cons se_int (sa_cons (se_callB (cm_min rfl) rfl T.m_min boot_min (sa_cons se_int (sa_cons (se_callB cm_len rfl T.m_len boot_len (sa_cons (se_var (i := 0) rfl (by first | exact Or.inl rfl | exact Or.inr (Or.inl rfl) | exact Or.inr (Or.inr rfl))) sa_nil)) sa_nil))) sa_nil))) sa_nil)) (sg_name (i := 1) sc_law.nd rfl (by first | exact Or.inl rfl | exact Or.inr rfl)) (sss_cons (ss_set (i := 2) sc_law.nd rfl (by first | exact Or.inl rfl | exact Or.inr rfl) (se_call (N := NN) (fk__law_bag (P := P) (base := base) T φ) bd__law_bag_2 (hr.mono (by first | decide | omega)) rfl T.g__law_bag pas0 (sb_cons (sa_cons (se_var (i := 0) rfl (by first | exact Or.inl rfl | exact Or.inr (Or.inl rfl) | exact Or.inr (Or.inr rfl))) (sa_cons (se_var (i := 1) rfl (by first | exact Or.inl rfl | exact Or.inr (Or.inl rfl) | exact Or.inr (Or.inr rfl))) sa_nil)) sk_nil)))
    (sss_cons (ss_asg (se_call (N := NN) (fk__law_loop (P := P) (base := base) T φ) bd__law_loop_1 (hr.mono (by first | decide | omega)) rfl T.g__law_loop pas0 (sb_cons (sa_cons (se_var (i := 2) rfl (by first | exact Or.inl rfl | exact Or.inr (Or.inl rfl) | exact Or.inr (Or.inr rfl))) sa_nil) sk_nil)) (sg_tup (n := 3) rfl (sgs_cons (sg_name (i := 3) sc_law.nd rfl (by first | exact Or.inl rfl | exact Or.inr rfl)) (sgs_cons (sg_name (i := 4) sc_law.nd rfl (by first | exact Or.inl rfl | exact Or.inr rfl)) (sgs_cons (sg_name (i := 5) sc_law.nd rfl (by first | exact Or.inl rfl | exact Or.inr rfl)) sgs_nil)))))
    (sss_cons (ss_set (i := 6) sc_law.nd rfl (by first | exact Or.inl rfl | exact Or.inr rfl) (se_call (N := NN) (fk__law_draw (P := P) (base := base) T φ) bd__law_draw_2 (hr.mono (by first | decide | omega)) rfl T.g__law_draw pas0 (sb_cons (sa_cons (se_var (i := 2) rfl (by first | exact Or.inl rfl | exact Or.inr (Or.inl rfl) | exact Or.inr (Or.inr rfl))) (sa_cons se_int sa_nil)) sk_nil)))
    (sss_cons (ss_set (i := 7) sc_law.nd rfl (by first | exact Or.inl rfl | exact Or.inr rfl) (se_call (N := NN) (fk__law_steps (P := P) (base := base) T φ) bd__law_steps_1 (hr.mono (by first | decide | omega)) rfl T.g__law_steps pas0 (sb_cons (sa_cons (se_var (i := 2) rfl (by first | exact Or.inl rfl | exact Or.inr (Or.inl rfl) | exact Or.inr (Or.inr rfl))) sa_nil) sk_nil)))
    (sss_cons (ss_set (i := 8) sc_law.nd rfl (by first | exact Or.inl rfl | exact Or.inr rfl) (se_op opm_add se_int (se_call (N := NN) (fk__law_large (P := P) (base := base) T φ) bd__law_large_2 (hr.mono (by first | decide | omega)) rfl T.g__law_large pas0 (sb_cons (sa_cons (se_var (i := 2) rfl (by first | exact Or.inl rfl | exact Or.inr (Or.inl rfl) | exact Or.inr (Or.inr rfl))) (sa_cons (se_op opm_sub (se_op opm_pow se_int se_int) se_int) sa_nil)) sk_nil))))
    (sss_cons (ss_set (i := 9) sc_law.nd rfl (by first | exact Or.inl rfl | exact Or.inr rfl) (se_ix (ixm hr.units) se_str (se_call (N := NN) (fk__law_draw (P := P) (base := base) T φ) bd__law_draw_2 (hr.mono (by first | decide | omega)) rfl T.g__law_draw pas0 (sb_cons (sa_cons (se_var (i := 2) rfl (by first | exact Or.inl rfl | exact Or.inr (Or.inl rfl) | exact Or.inr (Or.inr rfl))) (sa_cons se_int sa_nil)) sk_nil)) (fun _ _ => rfl)))
    (sss_cons (ss_set (i := 10) sc_law.nd rfl (by first | exact Or.inl rfl | exact Or.inr rfl) (se_tup (sa_cons (se_tup (sa_cons se_str (sa_cons (se_var (i := 9) rfl (by first | exact Or.inl rfl | exact Or.inr (Or.inl rfl) | exact Or.inr (Or.inr rfl))) (sa_cons se_str (sa_cons se_str sa_nil))))) (sa_cons (se_tup (sa_cons se_str (sa_cons (se_var (i := 7) rfl (by first | exact Or.inl rfl | exact Or.inr (Or.inl rfl) | exact Or.inr (Or.inr rfl))) sa_nil))) (sa_cons (se_tup (sa_cons se_str (sa_cons se_str (sa_cons (se_var (i := 6) rfl (by first | exact Or.inl rfl | exact Or.inr (Or.inl rfl) | exact Or.inr (Or.inr rfl))) sa_nil)))) sa_nil)))))
    (sss_cons (ss_set (i := 11) sc_law.nd rfl (by first | exact Or.inl rfl | exact Or.inr rfl) se_int)
    (sss_cons (ss_while φ (passes_of rfl) (SW.st (sw_and (st_cmp opm_gt (se_var (i := 11) rfl (by first | exact Or.inl rfl | exact Or.inr (Or.inl rfl) | exact Or.inr (Or.inr rfl))) se_int (nomark _)) (sw_and1 (st_cmp (opm_eq hr.units) (se_op opm_mod (se_op opm_mul (se_var (i := 6) rfl (by first | exact Or.inl rfl | exact Or.inr (Or.inl rfl) | exact Or.inr (Or.inr rfl))) (se_op opm_div (se_var (i := 11) rfl (by first | exact Or.inl rfl | exact Or.inr (Or.inl rfl) | exact Or.inr (Or.inr rfl))) se_int)) se_int) se_int (nomark _))))) (sss_cons (ss_set (i := 11) sc_law.nd rfl (by first | exact Or.inl rfl | exact Or.inr rfl) (se_op opm_div (se_var (i := 11) rfl (by first | exact Or.inl rfl | exact Or.inr (Or.inl rfl) | exact Or.inr (Or.inr rfl))) se_int))
    sss_nil))
    (sss_cons (ss_setLc (own := [("_law_turn", 20)]) rfl sc_law.nd (si_range1 rfl T.m_range (sa_cons (se_var (i := 11) rfl (by first | exact Or.inl rfl | exact Or.inr (Or.inl rfl) | exact Or.inr (Or.inr rfl))) sa_nil)) (blkOk_by (own := [("_law_turn", 20)]) (N := N_law) (sc := defScope s_law) (by decide +kernel)) (sgv_name (by decide)) (fun _ _ _ _ _ => (pg_name (i := 20) sc_law.nd rfl (by first | exact Or.inl rfl | exact Or.inr rfl))) (fun _ _ _ _ _ => (se_op opm_mod (se_op opm_add (se_var (i := 5) rfl (by first | exact Or.inl rfl | exact Or.inr (Or.inl rfl) | exact Or.inr (Or.inr rfl))) (se_op opm_mul (se_var (i := 6) rfl (by first | exact Or.inl rfl | exact Or.inr (Or.inl rfl) | exact Or.inr (Or.inr rfl))) (se_var (i := 20) rfl (by first | exact Or.inl rfl | exact Or.inr (Or.inl rfl) | exact Or.inr (Or.inr rfl))))) se_int)) (i := 12) rfl rfl (sw_true rfl rfl rfl rfl))
    (sss_cons (ss_set (i := 13) sc_law.nd rfl (by first | exact Or.inl rfl | exact Or.inr rfl) (se_callB (cm_sorted rfl) rfl T.m_sorted boot_sorted (sa_cons (se_lc (own := [("_law_one", 21)]) rfl sc_law.nd (si_any (se_var (i := 12) rfl (by first | exact Or.inl rfl | exact Or.inr (Or.inl rfl) | exact Or.inr (Or.inr rfl)))) (blkOk_by (own := [("_law_one", 21)]) (N := N_law) (sc := defScope s_law) (by decide +kernel)) (sgv_name (by decide)) (fun _ _ _ _ _ => (pg_name (i := 21) sc_law.nd rfl (by first | exact Or.inl rfl | exact Or.inr rfl))) (fun _ _ _ _ _ => (se_ix (ixm hr.units) (se_lst (sa_cons (se_op opm_sub (se_var (i := 8) rfl (by first | exact Or.inl rfl | exact Or.inr (Or.inl rfl) | exact Or.inr (Or.inr rfl))) (se_var (i := 21) rfl (by first | exact Or.inl rfl | exact Or.inr (Or.inl rfl) | exact Or.inr (Or.inr rfl)))) (sa_cons (se_op opm_add (se_var (i := 8) rfl (by first | exact Or.inl rfl | exact Or.inr (Or.inl rfl) | exact Or.inr (Or.inr rfl))) (se_var (i := 21) rfl (by first | exact Or.inl rfl | exact Or.inr (Or.inl rfl) | exact Or.inr (Or.inr rfl)))) sa_nil))) (se_callTy cm_int rfl T.m_int boot_int (sa_cons (se_cmp (opm_eq hr.units) (se_var (i := 9) rfl (by first | exact Or.inl rfl | exact Or.inr (Or.inl rfl) | exact Or.inr (Or.inr rfl))) se_str (nomark _)) sa_nil)) (fun _ _ => rfl)))) sa_nil)))
    (sss_cons (ss_set (i := 14) sc_law.nd rfl (by first | exact Or.inl rfl | exact Or.inr rfl) (se_call (N := NN) (fk_run (P := P) (base := base) T φ) bd_run_3 (hr.mono (by first | decide | omega)) rfl T.g_run (fun σ => passAt (takes_of rfl rfl rfl rfl) σ) (sb_cons (sa_cons (se_tup (sa_cons se_str (sa_cons (se_op opm_add (se_callTy cm_tuple rfl T.m_tuple boot_tuple (sa_cons (se_var (i := 3) rfl (by first | exact Or.inl rfl | exact Or.inr (Or.inl rfl) | exact Or.inr (Or.inr rfl))) sa_nil)) (se_tup (sa_cons (se_tup (sa_cons se_str (sa_cons (se_tup (sa_cons se_str (sa_cons se_str (sa_cons se_int sa_nil)))) (sa_cons (se_var (i := 10) rfl (by first | exact Or.inl rfl | exact Or.inr (Or.inl rfl) | exact Or.inr (Or.inr rfl))) sa_nil)))) sa_nil))) sa_nil))) (sa_cons (se_var (i := 8) rfl (by first | exact Or.inl rfl | exact Or.inr (Or.inl rfl) | exact Or.inr (Or.inr rfl))) (sa_cons (se_lst sa_nil) sa_nil))) sk_nil)))
    (sss_cons (ss_set (i := 15) sc_law.nd rfl (by first | exact Or.inl rfl | exact Or.inr rfl) (se_tup (sa_cons se_str (sa_cons se_non (sa_cons se_non (sa_cons (se_var (i := 4) rfl (by first | exact Or.inl rfl | exact Or.inr (Or.inl rfl) | exact Or.inr (Or.inr rfl))) (sa_cons (se_op opm_add (se_var (i := 4) rfl (by first | exact Or.inl rfl | exact Or.inr (Or.inl rfl) | exact Or.inr (Or.inr rfl))) (se_op opm_mul (se_var (i := 11) rfl (by first | exact Or.inl rfl | exact Or.inr (Or.inl rfl) | exact Or.inr (Or.inr rfl))) (se_op opm_add (se_var (i := 7) rfl (by first | exact Or.inl rfl | exact Or.inr (Or.inl rfl) | exact Or.inr (Or.inr rfl))) se_int))) (sa_cons (se_var (i := 13) rfl (by first | exact Or.inl rfl | exact Or.inr (Or.inl rfl) | exact Or.inr (Or.inr rfl))) sa_nil))))))))
    (sss_cons (ss_if (st_cmp (opm_ne hr.units) (se_call (N := NN) (fk__law_told (P := P) (base := base) T φ) bd__law_told_1 (hr.mono (by first | decide | omega)) rfl T.g__law_told pas0 (sb_cons (sa_cons (se_var (i := 14) rfl (by first | exact Or.inl rfl | exact Or.inr (Or.inl rfl) | exact Or.inr (Or.inr rfl))) sa_nil) sk_nil)) (se_var (i := 15) rfl (by first | exact Or.inl rfl | exact Or.inr (Or.inl rfl) | exact Or.inr (Or.inr rfl))) (nomark _)) (sss_cons (ss_ret se_bl)
    sss_nil) sss_nil)
    (sss_cons (ss_set (i := 16) sc_law.nd rfl (by first | exact Or.inl rfl | exact Or.inr rfl) (se_call (N := NN) (fk__law_draw (P := P) (base := base) T φ) bd__law_draw_2 (hr.mono (by first | decide | omega)) rfl T.g__law_draw pas0 (sb_cons (sa_cons (se_var (i := 2) rfl (by first | exact Or.inl rfl | exact Or.inr (Or.inl rfl) | exact Or.inr (Or.inr rfl))) (sa_cons se_int sa_nil)) sk_nil)))
    (sss_cons (ss_set (i := 17) sc_law.nd rfl (by first | exact Or.inl rfl | exact Or.inr rfl) (se_call (N := NN) (fk__law_rounds (P := P) (base := base) T φ) bd__law_rounds_3 (hr.mono (by first | decide | omega)) rfl T.g__law_rounds pas0 (sb_cons (sa_cons (se_var (i := 5) rfl (by first | exact Or.inl rfl | exact Or.inr (Or.inl rfl) | exact Or.inr (Or.inr rfl))) (sa_cons (se_var (i := 6) rfl (by first | exact Or.inl rfl | exact Or.inr (Or.inl rfl) | exact Or.inr (Or.inr rfl))) (sa_cons (se_var (i := 16) rfl (by first | exact Or.inl rfl | exact Or.inr (Or.inl rfl) | exact Or.inr (Or.inr rfl))) sa_nil))) sk_nil)))
    (sss_cons (ss_set (i := 18) sc_law.nd rfl (by first | exact Or.inl rfl | exact Or.inr rfl) (se_op opm_add (se_callTy cm_tuple rfl T.m_tuple boot_tuple (sa_cons (se_var (i := 3) rfl (by first | exact Or.inl rfl | exact Or.inr (Or.inl rfl) | exact Or.inr (Or.inr rfl))) sa_nil)) (se_tup (sa_cons (se_tup (sa_cons se_str (sa_cons (se_tup (sa_cons se_str (sa_cons se_str (sa_cons (se_var (i := 16) rfl (by first | exact Or.inl rfl | exact Or.inr (Or.inl rfl) | exact Or.inr (Or.inr rfl))) sa_nil)))) (sa_cons (se_tup (sa_cons (se_tup (sa_cons se_str (sa_cons (se_var (i := 7) rfl (by first | exact Or.inl rfl | exact Or.inr (Or.inl rfl) | exact Or.inr (Or.inr rfl))) sa_nil))) (sa_cons (se_tup (sa_cons se_str (sa_cons se_str (sa_cons (se_var (i := 6) rfl (by first | exact Or.inl rfl | exact Or.inr (Or.inl rfl) | exact Or.inr (Or.inr rfl))) sa_nil)))) sa_nil))) sa_nil)))) (sa_cons (se_tup (sa_cons se_str (sa_cons se_int sa_nil))) sa_nil)))))
    (sss_cons (ss_set (i := 19) sc_law.nd rfl (by first | exact Or.inl rfl | exact Or.inr rfl) (se_call (N := NN) (fk__law_told (P := P) (base := base) T φ) bd__law_told_1 (hr.mono (by first | decide | omega)) rfl T.g__law_told pas0 (sb_cons (sa_cons (se_call (N := NN) (fk_run (P := P) (base := base) T φ) bd_run_3 (hr.mono (by first | decide | omega)) rfl T.g_run (fun σ => passAt (takes_of rfl rfl rfl rfl) σ) (sb_cons (sa_cons (se_tup (sa_cons se_str (sa_cons (se_var (i := 18) rfl (by first | exact Or.inl rfl | exact Or.inr (Or.inl rfl) | exact Or.inr (Or.inr rfl))) sa_nil))) (sa_cons (se_var (i := 8) rfl (by first | exact Or.inl rfl | exact Or.inr (Or.inl rfl) | exact Or.inr (Or.inr rfl))) (sa_cons (se_lst (sa_cons (se_var (i := 8) rfl (by first | exact Or.inl rfl | exact Or.inr (Or.inl rfl) | exact Or.inr (Or.inr rfl))) sa_nil)) sa_nil))) sk_nil)) sa_nil) sk_nil)))
    (sss_cons (ss_set (i := 15) sc_law.nd rfl (by first | exact Or.inl rfl | exact Or.inr rfl) (se_tup (sa_cons se_str (sa_cons se_non (sa_cons se_non (sa_cons (se_var (i := 4) rfl (by first | exact Or.inl rfl | exact Or.inr (Or.inl rfl) | exact Or.inr (Or.inr rfl))) (sa_cons (se_op opm_add (se_var (i := 4) rfl (by first | exact Or.inl rfl | exact Or.inr (Or.inl rfl) | exact Or.inr (Or.inr rfl))) (se_op opm_mul (se_var (i := 11) rfl (by first | exact Or.inl rfl | exact Or.inr (Or.inl rfl) | exact Or.inr (Or.inr rfl))) (se_op opm_add (se_var (i := 7) rfl (by first | exact Or.inl rfl | exact Or.inr (Or.inl rfl) | exact Or.inr (Or.inr rfl))) se_int))) (sa_cons (se_lst sa_nil) sa_nil))))))))
    (sss_cons (ss_if (st_cmp opm_isnot (se_var (i := 17) rfl (by first | exact Or.inl rfl | exact Or.inr (Or.inl rfl) | exact Or.inr (Or.inr rfl))) se_non (nomark _)) (sss_cons (ss_set (i := 15) sc_law.nd rfl (by first | exact Or.inl rfl | exact Or.inr rfl) (se_tup (sa_cons se_str (sa_cons se_int (sa_cons (se_op opm_add (se_op opm_add (se_var (i := 4) rfl (by first | exact Or.inl rfl | exact Or.inr (Or.inl rfl) | exact Or.inr (Or.inr rfl))) (se_op opm_mul (se_var (i := 17) rfl (by first | exact Or.inl rfl | exact Or.inr (Or.inl rfl) | exact Or.inr (Or.inr rfl))) (se_op opm_add (se_var (i := 7) rfl (by first | exact Or.inl rfl | exact Or.inr (Or.inl rfl) | exact Or.inr (Or.inr rfl))) se_int))) se_int) (sa_cons se_non (sa_cons se_non (sa_cons (se_lst sa_nil) sa_nil))))))))
    sss_nil) sss_nil)
    (sss_cons (ss_if (st_cmp (opm_ne hr.units) (se_var (i := 19) rfl (by first | exact Or.inl rfl | exact Or.inr (Or.inl rfl) | exact Or.inr (Or.inr rfl))) (se_var (i := 15) rfl (by first | exact Or.inl rfl | exact Or.inr (Or.inl rfl) | exact Or.inr (Or.inr rfl))) (nomark _)) (sss_cons (ss_ret se_bl)
    sss_nil) sss_nil)
    sss_nil))))))))))))))))))))))
    (sss_cons (ss_ret se_bl)
    sss_nil))
end Nt

namespace Nt
open PySem PySem.Spec PyProof.Rows L2 Evl
local macro_rules
  | `(tactic| simp! only [$xs,*] $[$loc]?) => `(tactic| simp -implicitDefEqProofs only [zSeq_e, sq_nx, sq_rt, sq_bk, sq_ct, sq_er, sq_bad, zNil_e, zBrk_e, zCnt_e, zRaise_e, kNx_ok, kNx_err, zAsg_e, kAsg_ok, kAsg_err, zDrop_e, kDrop_ok, kDrop_err, zRet_e, kRet_ok, kRet_err, zIf_e, kIf_t, kIf_f, kIf_err, zAug_e, kAugV_s, kAug_ok, kSet_ok, zPar_e, kPar1_ok, kPar2_ok, run0_e, fin0_nx, fin0_rt, runX_e, finX_nx, finX_rt, finX_er, gmName_e, gmTup_t, gmTup_k, gmTup_l, kTL_s, gmsNil_e, gmsCons_e, kG_ok, kG1_ok, gmStar_t, gmStar_k, gmSub_e, kSub1_ok, kSub2_ok, kSub3_ok, gmFld_e, kGF1_ok, kGF2_s, xVar_e, kVar_s, xC_e, xOp_e, kOp1_ok, kOp1_err, kOp2_ok, kOp2_err, xUn_e, kUn_ok, aNil_e, aCons_e, kA1_ok, kA1_err, kA2_ok, kA2_err, xTup_e, kTp_ok, kTp_err, xLst_e, kLst_ok, kLst_err, xCB_e, kCB_ok, kCB_err, yCmp_e, yChain_e, kB_ok, kB_err, xChain_e, kCh1_ok, kCh2_ok, kCh3_t, kCh3_f, yV_e, kV_ok, kV_err, yYes_e, yAnd_e, kAnd_t, kAnd_f, kAnd_err, yOr_e, kOr_t, kOr_f, kOr_err, yNot_e, kNot_ok, kNot_err, xIf_e, kXIf_t, kXIf_f, kXIf_err, xAnd_e, kXA_ok, kXA2_t, kXA2_f, xOr_e, kXO_ok, kXO2_t, kXO2_f, xNot_e, kXN_ok, kXN2_ok, bArgs_e, kBA1_ok, kBA1_err, kBA2_ok, kBA2_err, xCall_e, kCall_ok, kCall_err, xMake_e, kMk1_ok, kMk1_err, kMk2_ok, kMk2_err, xMeth_e, kMe1_ok, kMe1b_s, kMe2_ok, kMe3_ok, kMe3_err, xFld_e, kF3_s, kF1_ok, kF2_s, kF1_err, xCallV_k, kCV1_s, kCV2_ok, xBM_e, kBM1_ok, kBM2_ok, zFA_e, kFA1c_s, kFA1_ok, kFA1b_s, kFA2_ok, kFA3_ok, kFA4_s, kAt_s, kAtI_s, kDg_s, kRf_l, kRf_k, vIx_tup, vIx_ktp, vIx_scr, vIx_ri, vIx_rs, vIx_rt, zFor_e, kFor_ok, kFor_err, itR_f, itL_f, itT_f, iRange1_e, kR1_ok, iAny_e, kAny_t, kAny_k, kAny_r, kIt_l, kDi_s, vIn_r, vIn_t, vIn_k, kIn_l, kIn_k, kIn_t, vMul_l, vMul_r, vDiv_w, vDiv_s, vMod_s, vPow_10, a_0, a_1, a_2, a_3, i_0, i_1, i_2, zTryAs_e, catch_nx, catch_rt, catch_er, outS_nx, outS_rt, xIsE_e, kIsE_ok, kIsE2_s, enter, vAdd, vSub, vMul_l, vMul_r, vDiv_s, vDiv_w, vMod_s, vPow_10, vCmpI, vNeg, vIadd, vSetI, vLen, vAbs, vMax, vMin, vInt, vStr, vList, vTuple, vEq_int, vEq_str, vNe_int, vNe_str, vIs, vIsNot, isNon, asTup, mAppend, mReverse, mPop, tyM, toB, truth, xGet1, xGet2, isDct, dGet, dPut, toK, toKs, putL, xDk, xDt, vIxT, vInT, zAsg3, xSl, oNone, oSome, vSl, a_0, a_1, a_2, a_3, i_0, i_1, i_2, List.length_cons, List.length_nil, Out.bind_ok, Out.bind_err, Out.bind_bad, Out.bindS_ok, Out.bindS_err, Out.bindS_bad, vMulL, List.map_cons, List.map_nil, List.cons_append, List.nil_append, List.append_nil, List.replicate_succ, List.replicate_zero, Nat.reduceSub, Nat.reduceAdd, Nat.reduceLeDiff, List.getElem?_cons_zero, List.getElem?_cons_succ, List.getElem?_nil, List.set_cons_zero, List.set_cons_succ, List.set_nil, List.lookup_cons, List.lookup_nil, List.contains_cons, List.drop_zero, List.drop_succ_cons, List.take_succ_cons, List.take_zero, List.contains_nil, Nat.reduceBEq, Nat.reduceEqDiff, beq_self_eq_true, Bool.or_false, Bool.or_true, Bool.true_or, Bool.false_or, Bool.and_true, Bool.true_and, Bool.and_false, Bool.false_and, ↓reduceIte, if_true, if_false, ite_true, ite_false, decide_true, decide_false, decide_eq_true_eq, Bool.not_true, Bool.not_false, true_and, and_true, and_self, or_true, true_or, false_or, or_false, Bool.false_eq_true, reduceCtorEq, Int.reduceLT, Int.reduceLE, Int.reduceEq, Int.reduceAdd, Int.reduceSub, Int.reduceMul, Int.reduceNeg, Int.reduceToNat, Int.reducePow, Nat.reducePow, not_true_eq_false, not_false_eq_true, Nat.zero_le, Nat.zero_add, Nat.reduceLT, Nat.le_refl, and_false, false_and, Option.getD_some, Option.getD_none, Option.isSome_some, Option.isSome_none, Bool.false_xor, Bool.true_xor, $xs,*] $[$loc]?)
/-! ### the bag, by the store -/
def Bag (S : Sto) (b : Nat) : Prop := ∃ x y, S[b]? = some (.lst [.int x, .int y])
theorem Bag.kp {S S' : Sto} {b : Nat} {ids : List Nat} (h : Bag S b) (k : Kp ids S S') (n : b ∉ ids) : Bag S' b := by
  obtain ⟨x, y, h⟩ := h
  exact ⟨x, y, k.get h n⟩
theorem Bag.app {S T : Sto} {b : Nat} (h : Bag S b) : Bag (S ++ T) b := by
  obtain ⟨x, y, h⟩ := h
  exact ⟨x, y, get_app h⟩
theorem Bag.lt {S : Sto} {b : Nat} (h : Bag S b) : b < S.length := by
  obtain ⟨x, y, h⟩ := h
  exact get_lt h
theorem draw_ok {φ b : Nat} {S : Sto} {m : Int} (hb : Bag S b) (hm : 0 < m) (hm2 : m < 18446744073709551616) : ∃ r S', m__law_draw φ [.ref b, .int m] S = .ok (.int r) S' ∧ Kp [b] S S' ∧ Bag S' b ∧ 0 ≤ r ∧ r < m := by
  obtain ⟨x, y, hb⟩ := hb
  by_cases hx : 0 < x
  · refine ⟨x % m, S.set b (.lst [.int (x / m), .int y]), ?_, Kp.set (by simp), ⟨_, _, get_set hb⟩, Int.emod_nonneg _ (by omega), Int.emod_lt_of_pos _ hm⟩
    simp! only [m__law_draw, b__law_draw, hb, hx, hm, hm2]
  · have hy1 : 0 ≤ y * 48271 % 2147483647 := Int.emod_nonneg _ (by omega)
    have hy2 : y * 48271 % 2147483647 < 2147483647 := Int.emod_lt_of_pos _ (by omega)
    generalize hz : y * 48271 % 2147483647 = z at hy1 hy2
    refine ⟨z * (z / 65536 + 9) % 2147483629 / 32 % m, S.set b (.lst [.int x, .int z]), ?_, Kp.set (by simp), ⟨_, _, get_set hb⟩, Int.emod_nonneg _ (by omega), Int.emod_lt_of_pos _ hm⟩
    have h1 : -18446744073709551616 < z ∧ z < 18446744073709551616 := by omega
    simp! only [m__law_draw, b__law_draw, hb, hx, hm, hm2, get_set hb, hz, h1]
theorem bag_ok {φ k : Nat} {S : Sto} {ns : List Int} (hk1 : k ≤ 1000) : ∃ x y, m__law_bag φ [.scr ns, .int (k : Int)] S = .ok (.ref S.length) (S ++ [.lst [.int x, .int y]]) := by
  have h1 : -18446744073709551616 < (k : Int) ∧ (k : Int) < 18446744073709551616 := by omega
  have hb : ∀ (p : Prop) [Decidable p], -18446744073709551616 < (if p then (1 : Int) else 0) ∧ (if p then (1 : Int) else 0) < 18446744073709551616 := by intro p _; split <;> omega
  by_cases hk : k < ns.length
  · obtain ⟨c, hc⟩ : ∃ c, atI ns (k : Int) = some c := ⟨ns[k], atI_nat (List.getElem?_eq_getElem hk)⟩
    have hki : (k : Int) < (ns.length : Int) := by omega
    simp! only [m__law_bag, b__law_bag, hki, hc, h1, hb]
    exact ⟨_, _, rfl⟩
  · have hki : ¬ (k : Int) < (ns.length : Int) := by omega
    simp! only [m__law_bag, b__law_bag, hki, h1, hb]
    exact ⟨_, _, rfl⟩

/-! ### large, steps, term, condition, simple -/
theorem large_ok {φ b : Nat} {S : Sto} {m : Int} (hφ : 12 < φ) (hb : Bag S b) (hm : 0 < m) (hm2 : m ≤ 1048576 ^ 10) : ∃ r S', m__law_large φ [.ref b, .int m] S = .ok (.int r) S' ∧ Kp [b] S S' ∧ Bag S' b ∧ 0 ≤ r ∧ r < m := by
  obtain ⟨e, S', h1, x, y, h2, h3, h4⟩ := whileZ_inv (t := t1__law_large φ) (f := l1__law_large φ) (fun n env S' => ∃ i x, n + i = 11 ∧ env = [some (.ref b), some (.int m), some (.int x), some (.int (1048576 ^ i))] ∧ Kp [b] S S' ∧ Bag S' b) (fun env S' => ∃ x y, env = [some (.ref b), some (.int m), some (.int x), some (.int y)] ∧ Kp [b] S S' ∧ Bag S' b) (fun n env S1 ⟨i, x, hi, he, k, hb1⟩ => by
      subst he
      by_cases hlt : (1048576 : Int) ^ i < m
      · refine .inr (.inl ?_)
        obtain ⟨r, S2, h1, k1, hb2, _⟩ := draw_ok (φ := φ) (m := 1048576) hb1 (by omega) (by omega)
        have hi : i < 10 := by
          rcases Nat.lt_or_ge i 10 with h | h
          · exact h
          · have : (1048576 : Int) ^ 10 ≤ 1048576 ^ i := ipow_le (a := 1048576) (by omega) h
            omega
        refine ⟨S1, n - 1, [some (.ref b), some (.int m), some (.int (x * 1048576 + r)), some (.int (1048576 ^ (i + 1)))], S2, by simp! only [t1__law_large, hlt], .inl ?_, by omega, i + 1, _, by omega, rfl, k.trans k1, hb2⟩
        simp! only [l1__law_large, h1, Int.pow_succ]
      · refine .inl ⟨S1, by simp! only [t1__law_large, hlt], x, _, rfl, k, hb1⟩) φ 11 [some (.ref b), some (.int m), some (.int 0), some (.int 1)] S (by omega) ⟨0, 0, rfl, rfl, .refl, hb⟩
  subst h2
  refine ⟨x % m, S', ?_, h3, h4, Int.emod_nonneg _ (by omega), Int.emod_lt_of_pos _ hm⟩
  simp! only [m__law_large, b__law_large, zWhile_e, h1, hm]

theorem steps_ok {φ b : Nat} {S : Sto} (hφ : 12 < φ) (hb : Bag S b) : ∃ r S', m__law_steps φ [.ref b] S = .ok (.int r) S' ∧ Kp [b] S S' ∧ Bag S' b ∧ 1 ≤ r ∧ r ≤ 10 ^ 30 := by
  obtain ⟨r1, S1, h1, k1, b1, l1, u1⟩ := draw_ok (φ := φ) (m := 4) hb (by omega) (by omega)
  obtain ⟨r2, S2, h2, k2, b2, l2, u2⟩ := large_ok (m := 1000000000000000000000000000000) hφ b1 (by omega) (by omega)
  obtain ⟨r3, S3, h3, k3, b3, l3, u3⟩ := draw_ok (φ := φ) (m := 2) b2 (by omega) (by omega)
  have k4 : Kp [b] S3 (S3 ++ [Ob.lst [.int (1 + r1), .int (1 + r2), .int (1000000000000000000000000000000 - r3)]]) := .app
  have b4 := b3.app (T := [Ob.lst [.int (1 + r1), .int (1 + r2), .int (1000000000000000000000000000000 - r3)]])
  have g4 := get_new (S := S3) (o := Ob.lst [.int (1 + r1), .int (1 + r2), .int (1000000000000000000000000000000 - r3)])
  obtain ⟨r5, S5, h5, k5, b5, l5, u5⟩ := draw_ok (φ := φ) (m := 8) b4 (by omega) (by omega)
  have g5 := k5.get g4 (ni1 (by have := b3.lt; omega))
  have kk := k1.trans (k2.trans (k3.trans (k4.trans k5)))
  have hc : r5 / 3 = 0 ∨ r5 / 3 = 1 ∨ r5 / 3 = 2 := by omega
  rcases hc with hc | hc | hc
  · refine ⟨1 + r1, S5, ?_, kk, b5, by omega, by omega⟩
    simp! only [m__law_steps, b__law_steps, h1, h2, h3, h5, g5, hc]
  · refine ⟨1 + r2, S5, ?_, kk, b5, by omega, by omega⟩
    simp! only [m__law_steps, b__law_steps, h1, h2, h3, h5, g5, hc]
  · refine ⟨1000000000000000000000000000000 - r3, S5, ?_, kk, b5, by omega, by omega⟩
    simp! only [m__law_steps, b__law_steps, h1, h2, h3, h5, g5, hc]
theorem two_cases {r : Int} (h1 : 0 ≤ r) (h2 : r < 2) : ∃ x : Bool, r = if x = true then 1 else 0 := by
  rcases (show r = 0 ∨ r = 1 by omega) with h | h
  · exact ⟨false, h⟩
  · exact ⟨true, h⟩
theorem ix_ab {x : Bool} {S : Sto} : vIx (.str "ab") (.int (if x = true then 1 else 0)) S = .ok (.str (dX x)) S := by
  cases x
  · exact ix_ab0
  · exact ix_ab1
theorem three_cases {r : Int} (h1 : 0 ≤ r) (h2 : r < 3) : r = 0 ∨ r = 1 ∨ r = 2 := by omega
/-! ### simple statements -/
theorem sK_eq {col : Bool} : decide (sK col = "collector") = col := by cases col <;> decide +kernel
theorem sK_beq {col : Bool} : (sK col == "collector") = col := by cases col <;> decide +kernel
/-! ### statements, bodies, programs -/
def Rm (S : Sto) (r : Nat) (n : Int) : Prop := S[r]? = some (.lst [.int n])
theorem Rm.kp {S S' : Sto} {r : Nat} {n : Int} {ids : List Nat} (h : Rm S r n) (k : Kp ids S S') (hn : r ∉ ids) : Rm S' r n := k.get h hn
theorem kp_b {S S' : Sto} {b r : Nat} (h : Kp [b] S S') : Kp [b, r] S S' := h.mono fun i hi => by rw [List.mem_singleton] at hi; rw [hi]; exact List.mem_cons_self ..
def dP (col : Bool) (bd : List Stm) : PyData := .tuple [.str (sK col), .tuple (dB bd)]
/-! ### the trees as data: programs -/
theorem chk_set : chk "set" = pSet := by unfold chk; rw [if_pos rfl]
theorem chk_add : chk "add" = pAdd := by unfold chk; rw [if_neg (by decide +kernel), if_pos rfl]
theorem chk_wait : chk "wait" = pWait := by unfold chk; rw [if_neg (by decide +kernel), if_neg (by decide +kernel), if_pos rfl]
theorem chk_ask : chk "ask" = pAsk := by unfold chk; rw [if_neg (by decide +kernel), if_neg (by decide +kernel), if_neg (by decide +kernel), if_pos rfl]
theorem chk_answer : chk "answer" = pAns := by unfold chk; rw [if_neg (by decide +kernel), if_neg (by decide +kernel), if_neg (by decide +kernel), if_neg (by decide +kernel), if_pos rfl]
theorem chk_grow : chk "grow" = pTerm := by unfold chk; rw [if_neg (by decide +kernel), if_neg (by decide +kernel), if_neg (by decide +kernel), if_neg (by decide +kernel), if_neg (by decide +kernel)]
theorem chk_list : chk "list" = pTerm := by unfold chk; rw [if_neg (by decide +kernel), if_neg (by decide +kernel), if_neg (by decide +kernel), if_neg (by decide +kernel), if_neg (by decide +kernel)]
theorem isOne_x (x : Bool) : isOne vars (.str (dX x)) = true := by cases x <;> decide +kernel
theorem isOne_s (s : Sg) : isOne comps (.str (sG s)) = true := by cases s <;> decide +kernel
theorem isOne_d (s : Di) : isOne dirs (.str (sD s)) = true := by cases s <;> decide +kernel
theorem isTerm_t {t : Tm} (h : okT t) : isTerm (dT t) = true := by
  cases t with
  | v b => unfold isTerm dT; rw [isOne_x]; exact Bool.or_true _
  | k n =>
    have h : 0 ≤ n ∧ n ≤ 15 := h
    show (decide (0 ≤ n) && decide (n < 16) || _) = true
    rw [decide_eq_true h.1, decide_eq_true (show n < 16 by omega)]; rfl
theorem isCond_c {c : Cd} (h : okT c.t) : isCond (dC c) = true := by
  show (isOne vars (.str (dX c.x)) && (isOne comps (.str (sG c.s)) && isTerm (dT c.t))) = true
  rw [isOne_x, isOne_s, isTerm_t h]; rfl
theorem wd_T : words (sK false) = wordsT := by decide +kernel
theorem wd_C : words (sK true) = wordsC := by decide +kernel
theorem nb_while : 1 = nBod "while" := by decide +kernel
theorem nb_if : 2 = nBod "if" := by decide +kernel
theorem cntStmt_while {kind : Str} {cb : PyData → Option Int} {c b : PyData} (h : isCond c = true) : cntStmt kind cb (.tuple [.str "while", c, b]) = (cb b).map (1 + ·) := by
  rw [cntStmt_blk (by decide +kernel)]
  show (if ([b] : List PyData).length = nBod "while" ∧ isCond c = true then (sumO [cb b]).map (1 + ·) else none) = _
  rw [if_pos ⟨nb_while, h⟩, sumO_one]
theorem cntStmt_if {kind : Str} {cb : PyData → Option Int} {c b d : PyData} (h : isCond c = true) : cntStmt kind cb (.tuple [.str "if", c, b, d]) = (match cb b, cb d with
    | some x, some y => some (1 + (x + y))
    | _, _ => none) := by
  rw [cntStmt_blk (by decide +kernel)]
  show (if ([b, d] : List PyData).length = nBod "if" ∧ isCond c = true then (sumO [cb b, cb d]).map (1 + ·) else none) = _
  rw [if_pos ⟨nb_if, h⟩, sumO_two]
  cases cb b <;> cases cb d <;> rfl
mutual
theorem cnt_S {col : Bool} : ∀ {f : Nat} {s : Stm}, okS col f s → cntStmt (sK col) (cntBody (sK col) f) (dS s) = some (szS s : Int)
  | f, .wait n, h => by
    rw [okS] at h
    refine okSimple.cnt ⟨"wait", _, rfl, by cases col <;> decide +kernel, ?_⟩ _
    rw [chk_wait]
    show (decide (1 ≤ n) && decide (n ≤ 1000000000000000000000000000000)) = true
    rw [decide_eq_true h.1, decide_eq_true (show n ≤ 1000000000000000000000000000000 by omega)]; rfl
  | f, .set x n, h => by
    rw [okS] at h
    refine okSimple.cnt ⟨"set", _, rfl, by cases col <;> decide +kernel, ?_⟩ _
    rw [chk_set]
    show (isOne vars (.str (dX x)) && (decide (0 ≤ n) && decide (n < 16))) = true
    rw [isOne_x, decide_eq_true h.1, decide_eq_true (show n < 16 by omega)]; rfl
  | f, .add x t, h => by
    rw [okS] at h
    refine okSimple.cnt ⟨"add", _, rfl, by cases col <;> decide +kernel, ?_⟩ _
    rw [chk_add]
    show (isOne vars (.str (dX x)) && isTerm (dT t)) = true
    rw [isOne_x, isTerm_t h]; rfl
  | f, .ask s t x, h => by
    rw [okS] at h
    obtain ⟨h, rfl⟩ := h
    refine okSimple.cnt ⟨"ask", _, rfl, by decide +kernel, ?_⟩ _
    rw [chk_ask]
    show (isOne dirs (.str (sD s)) && (isTerm (dT t) && isOne vars (.str (dX x)))) = true
    rw [isOne_x, isOne_d, isTerm_t h]; rfl
  | f, .answer n, h => by
    rw [okS] at h
    obtain ⟨h, rfl⟩ := h
    refine okSimple.cnt ⟨"answer", _, rfl, by decide +kernel, ?_⟩ _
    rw [chk_answer]
    show (decide (0 ≤ n) && decide (n ≤ 1)) = true
    rw [decide_eq_true h.1, decide_eq_true h.2]; rfl
  | f, .grow t, h => by
    rw [okS] at h
    obtain ⟨h, rfl⟩ := h
    refine okSimple.cnt ⟨"grow", _, rfl, by decide +kernel, ?_⟩ _
    rw [chk_grow]
    exact isTerm_t h
  | f, .list t, h => by
    rw [okS] at h
    obtain ⟨h, rfl⟩ := h
    refine okSimple.cnt ⟨"list", _, rfl, by decide +kernel, ?_⟩ _
    rw [chk_list]
    exact isTerm_t h
  | f, .whl c b, h => by
    rw [okS] at h
    show cntStmt _ _ (.tuple [.str "while", dC c, .tuple (dB b)]) = _
    rw [cntStmt_while (isCond_c h.1), cnt_B h.2]
    show some (1 + (szB b : Int)) = some ((1 + szB b : Nat) : Int)
    congr 1
  | f, .ite c b d, h => by
    rw [okS] at h
    show cntStmt _ _ (.tuple [.str "if", dC c, .tuple (dB b), .tuple (dB d)]) = _
    rw [cntStmt_if (isCond_c h.1), cnt_B h.2.1, cnt_B h.2.2]
    show some (1 + ((szB b : Int) + (szB d : Int))) = some ((1 + (szB b + szB d) : Nat) : Int)
    congr 1
theorem cnt_B {col : Bool} : ∀ {f : Nat} {b : List Stm}, okB col f b → cntBody (sK col) f (.tuple (dB b)) = some (szB b : Int)
  | f, [], _ => by rw [dB, cntBody_nil]; rfl
  | 0, s :: ss, h => by rw [okB] at h; exact h.elim
  | f + 1, s :: ss, h => by
    rw [okB] at h
    have h2 := cnt_B h.2
    rw [cntBody_S] at h2
    rw [dB, cntBody_S, List.map_cons, sumO_cons, cnt_S h.1, h2]
    show some ((szS s : Int) + (szB ss : Int)) = some ((szS s + szB ss : Nat) : Int)
    congr 1
end

theorem sK_kind (col : Bool) : okKind (sK col) := by cases col <;> first | exact .inl rfl | exact .inr rfl
theorem isProg_dP {col : Bool} {bd : List Stm} (h : okB col 4 bd) (hs : szB bd ≤ 24) : isProg (dP col bd) = true := by
  unfold dP
  rw [isProg_eq (sK_kind col), cnt_B h]
  exact decide_eq_true (by omega)
theorem isProgK_dP {col : Bool} {bd : List Stm} (h : okB col 4 bd) (hs : szB bd ≤ 24) : isProgK (some (sK col)) (dP col bd) = true := by
  unfold isProgK
  rw [isProg_dP h hs]
  exact decide_eq_true (p := sK col = sK col) rfl
/-! reading back -/
mutual
def hgt : PyData → Nat
  | .list xs => 1 + hgts xs
  | .tuple xs => 1 + hgts xs
  | _ => 1
def hgts : List PyData → Nat
  | [] => 0
  | x :: xs => max (hgt x) (hgts xs)
end
mutual
theorem toD_tv {S : Sto} : ∀ {d : PyData} {n : Nat}, noL d = true → hgt d ≤ n → toD n S (tv d) = some d
  | .none, n + 1, _, _ => by rw [tv]; rfl
  | .bool b, n + 1, _, _ => by rw [tv]; rfl
  | .int i, n + 1, _, _ => by rw [tv]; rfl
  | .str s, n + 1, _, _ => by rw [tv]; rfl
  | .tuple xs, n + 1, h, hn => by
    rw [noL] at h
    rw [hgt] at hn
    rw [tv]
    show (allD (toD n S) (tv.tvs xs)).map PyData.tuple = _
    rw [toDs_tv h (by omega)]; rfl
  | .list xs, _, h, _ => by rw [noL] at h; cases h
  | .dict xs, _, h, _ => by rw [noL] at h; cases h
  | .none, 0, _, h => absurd h (by show ¬ 1 ≤ 0; omega)
  | .bool b, 0, _, h => absurd h (by show ¬ 1 ≤ 0; omega)
  | .int i, 0, _, h => absurd h (by show ¬ 1 ≤ 0; omega)
  | .str s, 0, _, h => absurd h (by show ¬ 1 ≤ 0; omega)
  | .tuple xs, 0, _, h => by rw [hgt] at h; omega
theorem toDs_tv {S : Sto} : ∀ {ds : List PyData} {n : Nat}, noLs ds = true → hgts ds ≤ n → allD (toD n S) (tv.tvs ds) = some ds
  | [], n, _, _ => by rw [tv.tvs]; rfl
  | d :: ds, n, h, hn => by
    rw [noLs, Bool.and_eq_true] at h
    rw [hgts] at hn
    rw [tv.tvs, allD, toD_tv h.1 (by omega), toDs_tv h.2 (by omega)]
end
theorem noL_T (t : Tm) : noL (dT t) = true := by cases t <;> rfl
theorem hgt_T (t : Tm) : hgt (dT t) = 1 := by cases t <;> rfl
theorem noL_C (c : Cd) : noL (dC c) = true := by
  unfold dC
  simp only [noL, noLs, noL_T, Bool.and_self]
theorem hgt_C (c : Cd) : hgt (dC c) = 2 := by
  unfold dC
  simp only [hgt, hgts, hgt_T]
  rfl
mutual
theorem noL_S : ∀ s : Stm, noL (dS s) = true
  | .wait n => by rw [dS]; rfl
  | .set x n => by rw [dS]; rfl
  | .add x t => by rw [dS]; simp only [noL, noLs, noL_T, Bool.and_self]
  | .ask s t x => by rw [dS]; simp only [noL, noLs, noL_T, Bool.and_self]
  | .answer n => by rw [dS]; rfl
  | .grow t => by rw [dS]; simp only [noL, noLs, noL_T, Bool.and_self]
  | .list t => by rw [dS]; simp only [noL, noLs, noL_T, Bool.and_self]
  | .whl c b => by rw [dS]; simp only [noL, noLs, noL_C, noL_B b, Bool.and_self]
  | .ite c b d => by rw [dS]; simp only [noL, noLs, noL_C, noL_B b, noL_B d, Bool.and_self]
theorem noL_B : ∀ b : List Stm, noLs (dB b) = true
  | [] => by rw [dB]; rfl
  | s :: ss => by rw [dB, noLs, noL_S s, noL_B ss]; rfl
end
mutual
theorem hgt_S {col : Bool} : ∀ {f : Nat} {s : Stm}, okS col f s → hgt (dS s) ≤ 2 * f + 4
  | f, .wait n, _ => by rw [dS]; simp only [hgt, hgts]; omega
  | f, .set x n, _ => by rw [dS]; simp only [hgt, hgts]; omega
  | f, .add x t, _ => by rw [dS]; simp only [hgt, hgts, hgt_T]; omega
  | f, .ask s t x, _ => by rw [dS]; simp only [hgt, hgts, hgt_T]; omega
  | f, .answer n, _ => by rw [dS]; simp only [hgt, hgts]; omega
  | f, .grow t, _ => by rw [dS]; simp only [hgt, hgts, hgt_T]; omega
  | f, .list t, _ => by rw [dS]; simp only [hgt, hgts, hgt_T]; omega
  | f, .whl c b, h => by
    rw [okS] at h
    have := hgt_B h.2
    rw [dS]; simp only [hgt, hgts, hgt_C]; omega
  | f, .ite c b d, h => by
    rw [okS] at h
    have := hgt_B h.2.1
    have := hgt_B h.2.2
    rw [dS]; simp only [hgt, hgts, hgt_C]; omega
theorem hgt_B {col : Bool} : ∀ {f : Nat} {b : List Stm}, okB col f b → hgts (dB b) ≤ 2 * f + 2
  | f, [], _ => by rw [dB]; simp only [hgts]; omega
  | 0, s :: ss, h => by rw [okB] at h; exact h.elim
  | f + 1, s :: ss, h => by
    rw [okB] at h
    have h1 := hgt_S h.1
    have h2 := hgt_B h.2
    rw [dB, hgts]; omega
end
theorem toD_dP {S : Sto} {col : Bool} {bd : List Stm} (h : okB col 4 bd) : toD 60 S (tv (dP col bd)) = some (dP col bd) := by
  refine toD_tv ?_ ?_
  · unfold dP; simp only [noL, noLs, noL_B, Bool.and_self]
  · have := hgt_B h
    unfold dP; simp only [hgt, hgts]; omega
theorem szS_pos (s : Stm) : 1 ≤ szS s := by
  cases s <;> first | exact Nat.le_refl 1 | (rw [szS]; omega)
theorem sm_T (t : Tm) : Sm (dT t) := by
  cases t
  · exact .str _
  · exact .int _
theorem sm_C (c : Cd) : Sm (dC c) := .tuple (by simp) (all3 (.str _) (.str _) (sm_T _))
mutual
theorem sm_S : ∀ {s : Stm}, szS s ≤ 10000 → Sm (dS s)
  | .wait n, _ => by rw [dS]; exact .tuple (by simp) (all2 (.str _) (.int _))
  | .set x n, _ => by rw [dS]; exact .tuple (by simp) (all3 (.str _) (.str _) (.int _))
  | .add x t, _ => by rw [dS]; exact .tuple (by simp) (all3 (.str _) (.str _) (sm_T _))
  | .ask s t x, _ => by rw [dS]; exact .tuple (by simp) (all4 (.str _) (.str _) (sm_T _) (.str _))
  | .answer n, _ => by rw [dS]; exact .tuple (by simp) (all2 (.str _) (.int _))
  | .grow t, _ => by rw [dS]; exact .tuple (by simp) (all2 (.str _) (sm_T _))
  | .list t, _ => by rw [dS]; exact .tuple (by simp) (all2 (.str _) (sm_T _))
  | .whl c b, h => by
    rw [szS] at h
    obtain ⟨h1, h2⟩ := sm_B (b := b) (by omega)
    rw [dS]; exact .tuple (by simp) (all3 (.str _) (sm_C _) (.tuple (by omega) h2))
  | .ite c b d, h => by
    rw [szS] at h
    obtain ⟨h1, h2⟩ := sm_B (b := b) (by omega)
    obtain ⟨h3, h4⟩ := sm_B (b := d) (by omega)
    rw [dS]; exact .tuple (by simp) (all4 (.str _) (sm_C _) (.tuple (by omega) h2) (.tuple (by omega) h4))
theorem sm_B : ∀ {b : List Stm}, szB b ≤ 10000 → (dB b).length ≤ szB b ∧ ∀ x, x ∈ dB b → Sm x
  | [], _ => by rw [dB]; exact ⟨Nat.zero_le _, fun x hx => absurd hx List.not_mem_nil⟩
  | s :: ss, h => by
    have hs : 1 ≤ szS s := szS_pos s
    rw [szB] at h
    obtain ⟨h1, h2⟩ := sm_B (b := ss) (by omega)
    refine ⟨by rw [dB, szB, List.length_cons]; omega, fun x hx => ?_⟩
    rw [dB] at hx
    rcases List.mem_cons.mp hx with rfl | hx
    · exact sm_S (by omega)
    · exact h2 x hx
end
theorem sm_dP {col : Bool} {bd : List Stm} (hs : szB bd ≤ 10000) : Sm (dP col bd) := by
  obtain ⟨h1, h2⟩ := sm_B hs
  exact .tuple (by simp) (all2 (.str _) (.tuple (by omega) h2))

/-! ### the instructions of a tree -/
theorem simple_code {kind : Str} {cb : Nat → PyData → List PyData} {n : Nat} {d : PyData} {z : Str} {ps : List PyData} (e : d = .tuple (.str z :: ps)) (h : isBlk z = false) : codeStmt cb n d = [d] := by
  rw [e]; exact codeStmt_one h
mutual
theorem code_S {col : Bool} : ∀ {f : Nat} {s : Stm} {n : Nat}, okS col f s → codeStmt (codeBody f) n (dS s) = (cS n s).map dI
  | f, .wait k, n, h => by rw [dS, cS]; exact codeStmt_one (by decide +kernel)
  | f, .set x k, n, h => by rw [dS, cS]; exact codeStmt_one (by decide +kernel)
  | f, .add x t, n, h => by rw [dS, cS]; exact codeStmt_one (by decide +kernel)
  | f, .ask s t x, n, h => by rw [dS, cS]; exact codeStmt_one (by decide +kernel)
  | f, .answer k, n, h => by rw [dS, cS]; exact codeStmt_one (by decide +kernel)
  | f, .grow t, n, h => by rw [dS, cS]; exact codeStmt_one (by decide +kernel)
  | f, .list t, n, h => by rw [dS, cS]; exact codeStmt_one (by decide +kernel)
  | f, .whl c b, n, h => by
    rw [okS] at h
    have h1 := code_B (n := n + 1) h.2
    rw [dS, cS, codeStmt_while]
    unfold codeWhile
    rw [h1, List.length_map, List.map_cons, List.map_append]
    rfl
  | f, .ite c b [], n, h => by
    rw [okS] at h
    have h1 := code_B (n := n + 1) h.2.1
    rw [dS, cS, codeStmt_if]
    unfold codeIf
    rw [if_pos (by rw [dB]; rfl), h1, List.length_map, List.map_cons]
    rfl
  | f, .ite c b (s :: ss), n, h => by
    rw [okS] at h
    have h1 := code_B (n := n + 1) h.2.1
    rw [dS, cS, codeStmt_if]
    unfold codeIf
    rw [if_neg (by rw [dB]; exact Bool.false_ne_true), h1, List.length_map]
    generalize n + (cB (n + 1) b).length + 2 = k
    have h2 : codeBody f k (.tuple (dB (s :: ss))) = (cS k s ++ cB (k + (cS k s).length) ss).map dI := by
      cases f with
      | zero => have := h.2.2; rw [okB] at this; exact this.elim
      | succ f =>
        have h3 := h.2.2
        rw [okB] at h3
        have h4 := code_B (n := k + (cS k s).length) h3.2
        rw [codeBody_S] at h4
        rw [dB, codeBody_S, codeStmts, code_S h3.1, List.length_map, h4, List.map_append]
    rw [h2, List.length_map]
    simp only [List.map_cons, List.map_append]
    rfl
theorem code_B {col : Bool} : ∀ {f : Nat} {b : List Stm} {n : Nat}, okB col f b → codeBody f n (.tuple (dB b)) = (cB n b).map dI
  | f, [], n, _ => by rw [dB, codeBody_nil, cB]; rfl
  | 0, s :: ss, n, h => by rw [okB] at h; exact h.elim
  | f + 1, s :: ss, n, h => by
    rw [okB] at h
    have h2 := code_B (n := n + (cS n s).length) h.2
    rw [codeBody_S] at h2
    rw [dB, codeBody_S, codeStmts, code_S h.1, List.length_map, h2, cB, List.map_append]
end
theorem asm_dP {col : Bool} {bd : List Stm} (h : okB col 4 bd) : asm (dP col bd) = (cB 0 bd).map dI := code_B h
theorem noL_I (i : In) : noL (dI i) = true := by
  cases i <;> first | rfl | (rw [dI]; simp only [noL, noLs, noL_T, noL_C, Bool.and_self])
theorem noLs_I : ∀ l : List In, noLs (l.map dI) = true
  | [] => rfl
  | i :: l => by rw [List.map_cons, noLs, noL_I, noLs_I l]; rfl
/-- an instruction as assemble makes it -/
def oI (i : In) : Vl := ofD (dI i)
theorem assemble_ok {φ : Nat} {S : Sto} {col : Bool} {bd : List Stm} (h : okB col 4 bd) (hs : szB bd ≤ 24) : m_assemble φ [tv (dP col bd)] S = .ok (.ref S.length) (S ++ [.lst ((cB 0 bd).map oI)]) := by
  unfold m_assemble
  dsimp only
  rw [toD_dP h]
  dsimp only
  rw [if_pos (sm_dP (by omega)), if_pos (isProg_dP h hs), asm_dP h, if_pos (noLs_I _), List.map_map]
  rfl
theorem check_ok {φ : Nat} {S : Sto} {col : Bool} {bd : List Stm} (h : okB col 4 bd) (hs : szB bd ≤ 24) : m_check_program φ [tv (dP col bd), .str (sK col)] S = .ok .non S := by
  unfold m_check_program
  dsimp only
  rw [toD_dP h]
  simp only [toKd]
  rw [if_pos (sm_dP (by omega)), if_pos (isProgK_dP h hs)]

/-! ### walks -/
structure Wk where
  idx : Nat
  st : Int
  ct : Int
  a : Int
  b : Int
  rep : Option Int
  asked : List Int
  listed : List (Int × Int)
structure Ids where
  c : Nat
  w : Nat
  kn : Nat
  vr : Nat
  rq : Nat
  ls : Nat
def Wk.var (w : Wk) (x : Bool) : Int := if x = true then w.b else w.a
def tmv (t : Tm) (w : Wk) : Int := match t with
  | .v x => w.var x
  | .k n => n
def cdv (c : Cd) (w : Wk) : Bool := match c.s with
  | .eq => decide (w.var c.x = tmv c.t w)
  | .ne => !decide (w.var c.x = tmv c.t w)
  | .lt => decide (w.var c.x < tmv c.t w)
def plc (s : Di) (p v : Int) : Int := match s with
  | .pl => p + v
  | .mi => p - v
  | .at_ => v
def cost : In → Int
  | .wait n => n
  | _ => 1
def Wk.sv (w : Wk) (x : Bool) (v : Int) : Wk := { w with a := if x = true then w.a else v, b := if x = true then v else w.b }
def insK (l : List Int) (k : Int) : List Int := if k ∈ l then l else l ++ [k]
/-- what an instruction does, behind its cost and the step on -/
def act (pos : Int) (kn : List Int) (i : In) (w : Wk) : Wk := match i with
  | .wait _ => { w with rep := none }
  | .set x n => w.sv x n
  | .add x t => w.sv x ((w.var x + tmv t w) % 16)
  | .ask s t x => { w.sv x (if 0 ≤ plc s pos (tmv t w) ∧ plc s pos (tmv t w) ∈ kn then 1 else 0) with asked := if 0 ≤ plc s pos (tmv t w) then insK w.asked (plc s pos (tmv t w)) else w.asked }
  | .answer n => { w with rep := some n }
  | .grow t => { w with ct := w.ct + tmv t w }
  | .list t => { w with listed := w.listed ++ [(w.st, w.ct + tmv t w)] }
  | .test c n => if cdv c w = true then w else { w with idx := n }
  | .jump n => { w with idx := n }
def stepW (pos : Int) (kn : List Int) (i : In) (w : Wk) : Wk := act pos kn i { w with idx := w.idx + 1, st := w.st + cost i }
def repV : Option Int → Vl
  | none => .non
  | some n => .int n
def fsW (I : Ids) (pos : Int) (w : Wk) : List (Nat × Vl) := [(10, .ref I.c), (11, .int pos), (12, .ref I.kn), (1, .int (w.idx : Int)), (13, .int w.st), (9, .int w.ct), (14, .ref I.vr), (8, repV w.rep), (15, .ref I.rq), (16, .ref I.ls)]
def vkv (a b : Int) : List (Key × Vl) := [(.inr "a", .int a), (.inr "b", .int b)]
def rqv (l : List Int) : List (Key × Vl) := l.map fun k => (.inl k, .bl true)
def lsv (l : List (Int × Int)) : List Vl := l.map fun p => .tup [.int p.1, .int p.2]
structure WAt (S : Sto) (I : Ids) (code : List In) (pos : Int) (kn : List Int) (w : Wk) : Prop where
  hw : S[I.w]? = some (.ins 33 (fsW I pos w))
  hc : S[I.c]? = some (.lst (code.map oI))
  hk : S[I.kn]? = some (.dk (rqv kn))
  hv : S[I.vr]? = some (.dk (vkv w.a w.b))
  hr : S[I.rq]? = some (.dk (rqv w.asked))
  hl : S[I.ls]? = some (.lst (lsv w.listed))
  ord : I.c < I.w ∧ I.w < I.kn ∧ I.kn < I.vr ∧ I.vr < I.rq ∧ I.rq < I.ls
theorem get_vkv {a b : Int} (x : Bool) : getK (vkv a b) (.inr (dX x)) = some (.int (if x = true then b else a)) := by cases x <;> rfl
theorem get_vkvI {a b n : Int} : getK (vkv a b) (.inl n) = none := rfl
theorem set_vkv {a b v : Int} (x : Bool) : setK (vkv a b) (.inr (dX x)) (.int v) = vkv (if x = true then a else v) (if x = true then v else b) := by cases x <;> rfl
theorem vkv_len {a b : Int} : (vkv a b).length < 100000 := by show 2 < 100000; omega
theorem get_rqv {k : Int} : ∀ {l : List Int}, getK (rqv l) (.inl k) = if k ∈ l then some (.bl true) else none
  | [] => rfl
  | j :: l => by
    have ih := get_rqv (k := k) (l := l)
    unfold getK rqv at ih ⊢
    rw [List.map_cons, List.find?_cons]
    by_cases h : j = k
    · subst h
      rw [decide_eq_true rfl, if_pos (List.mem_cons_self ..)]; rfl
    · rw [decide_eq_false (fun e => h (Sum.inl.inj e)), ih]
      by_cases h2 : k ∈ l
      · rw [if_pos h2, if_pos (List.mem_cons_of_mem _ h2)]
      · rw [if_neg h2, if_neg (fun e => by rcases List.mem_cons.mp e with e | e; exact h e.symm; exact h2 e)]
theorem set_rqv {k : Int} {l : List Int} : setK (rqv l) (.inl k) (.bl true) = rqv (insK l k) := by
  have ha : (rqv l).any (fun kv => decide (kv.1 = (Sum.inl k : Key))) = decide (k ∈ l) := by
    unfold rqv
    induction l with
    | nil => rfl
    | cons j l ih =>
      rw [List.map_cons, List.any_cons, ih]
      by_cases h : j = k
      · subst h
        rw [decide_eq_true rfl, decide_eq_true (List.mem_cons_self ..)]; rfl
      · rw [decide_eq_false (fun e => h (Sum.inl.inj e)), Bool.false_or]
        congr 1
        apply propext
        constructor
        · exact List.mem_cons_of_mem _
        · intro e
          rcases List.mem_cons.mp e with e | e
          · exact absurd e.symm h
          · exact e
  unfold setK insK
  rw [ha]
  by_cases h : k ∈ l
  · rw [if_pos (decide_eq_true h), if_pos h]
    unfold rqv
    rw [List.map_map]
    refine List.map_congr_left fun j _ => ?_
    show (if (Sum.inl j : Key) = Sum.inl k then _ else _) = _
    split <;> rfl
  · rw [if_neg (by rw [decide_eq_false h]; exact Bool.false_ne_true), if_neg h]
    unfold rqv
    rw [List.map_append]; rfl
theorem insK_len (l : List Int) (k : Int) : (insK l k).length ≤ l.length + 1 := by
  unfold insK
  split
  · omega
  · rw [List.length_append]; exact Nat.le_refl _
section
variable {S : Sto} {I : Ids} {code : List In} {pos : Int} {kn : List Int} {w : Wk}
theorem WAt.app {T : Sto} (h : WAt S I code pos kn w) : WAt (S ++ T) I code pos kn w := ⟨get_app h.hw, get_app h.hc, get_app h.hk, get_app h.hv, get_app h.hr, get_app h.hl, h.ord⟩
theorem WAt.setW {w' : Wk} (h : WAt S I code pos kn w) (e1 : w'.a = w.a) (e2 : w'.b = w.b) (e3 : w'.asked = w.asked) (e4 : w'.listed = w.listed) : WAt (S.set I.w (.ins 33 (fsW I pos w'))) I code pos kn w' := by
  have o := h.ord
  exact ⟨get_set h.hw, by rw [get_set_ne (by omega)]; exact h.hc, by rw [get_set_ne (by omega)]; exact h.hk, by rw [get_set_ne (by omega), e1, e2]; exact h.hv, by rw [get_set_ne (by omega), e3]; exact h.hr, by rw [get_set_ne (by omega), e4]; exact h.hl, o⟩
theorem WAt.setV (h : WAt S I code pos kn w) (x : Bool) (v : Int) : WAt (S.set I.vr (.dk (setK (vkv w.a w.b) (.inr (dX x)) (.int v)))) I code pos kn (w.sv x v) := by
  have o := h.ord
  rw [set_vkv]
  exact ⟨by rw [get_set_ne (by omega)]; exact h.hw, by rw [get_set_ne (by omega)]; exact h.hc, by rw [get_set_ne (by omega)]; exact h.hk, get_set h.hv, by rw [get_set_ne (by omega)]; exact h.hr, by rw [get_set_ne (by omega)]; exact h.hl, o⟩
theorem WAt.setR (h : WAt S I code pos kn w) (k : Int) : WAt (S.set I.rq (.dk (setK (rqv w.asked) (.inl k) (.bl true)))) I code pos kn { w with asked := insK w.asked k } := by
  have o := h.ord
  rw [set_rqv]
  exact ⟨by rw [get_set_ne (by omega)]; exact h.hw, by rw [get_set_ne (by omega)]; exact h.hc, by rw [get_set_ne (by omega)]; exact h.hk, by rw [get_set_ne (by omega)]; exact h.hv, get_set h.hr, by rw [get_set_ne (by omega)]; exact h.hl, o⟩
theorem WAt.setL (h : WAt S I code pos kn w) (p : Int × Int) : WAt (S.set I.ls (.lst (lsv w.listed ++ [.tup [.int p.1, .int p.2]]))) I code pos kn { w with listed := w.listed ++ [p] } := by
  have o := h.ord
  exact ⟨by rw [get_set_ne (by omega)]; exact h.hw, by rw [get_set_ne (by omega)]; exact h.hc, by rw [get_set_ne (by omega)]; exact h.hk, by rw [get_set_ne (by omega)]; exact h.hv, by rw [get_set_ne (by omega)]; exact h.hr, by rw [get_set h.hl]; unfold lsv; rw [List.map_append]; rfl, o⟩
/-! the methods -/
theorem ofT_v {x : Bool} : ofD (dT (.v x)) = .str (dX x) := rfl
theorem ofT_k {n : Int} : ofD (dT (.k n)) = .int n := rfl
theorem term_w {φ : Nat} {t : Tm} (h : WAt S I code pos kn w) : m_Walk_term φ [.ref I.w, ofD (dT t)] S = .ok (.int (tmv t w)) S := by
  have hw := h.hw
  have hv := h.hv
  cases t with
  | v x => simp! only [m_Walk_term, b_Walk_term, hw, hv, fsW, ofT_v, get_vkv, tmv, Wk.var]
  | k n => simp! only [m_Walk_term, b_Walk_term, hw, hv, fsW, ofT_k, get_vkvI, tmv]
theorem over_w {φ : Nat} (h : WAt S I code pos kn w) : m_Walk_is_over φ [.ref I.w] S = .ok (.bl (w.rep.isSome || decide (w.idx = code.length))) S := by
  have hw := h.hw
  have hc := h.hc
  have hd : decide ((w.idx : Int) = ((code.map oI).length : Int)) = decide (w.idx = code.length) := by
    rw [List.length_map]
    by_cases q : w.idx = code.length
    · rw [decide_eq_true q, decide_eq_true (by omega)]
    · rw [decide_eq_false q, decide_eq_false (by omega)]
  cases hr : w.rep with
  | none => simp! only [m_Walk_is_over, b_Walk_is_over, hw, hc, fsW, hr, repV, hd]
  | some n => simp! only [m_Walk_is_over, b_Walk_is_over, hw, hc, fsW, hr, repV, hd]
theorem state_w {φ : Nat} (h : WAt S I code pos kn w) : m_Walk_state φ [.ref I.w] S = .ok (.tup [.int (w.idx : Int), .int w.a, .int w.b]) S := by
  have hw := h.hw
  have hv := h.hv
  have ga : getK (vkv w.a w.b) (.inr "a") = some (.int w.a) := rfl
  have gb : getK (vkv w.a w.b) (.inr "b") = some (.int w.b) := rfl
  simp! only [m_Walk_state, b_Walk_state, hw, hv, fsW, ga, gb]
end

/-! ### the instructions done -/
def wI : In → Str
  | .wait _ => "wait"
  | .set _ _ => "set"
  | .add _ _ => "add"
  | .ask _ _ _ => "ask"
  | .answer _ => "answer"
  | .grow _ => "grow"
  | .list _ => "list"
  | .test _ _ => "test"
  | .jump _ => "jump"
def pI : In → List Vl
  | .wait n => [.int n]
  | .set x n => [.str (dX x), .int n]
  | .add x t => [.str (dX x), ofD (dT t)]
  | .ask s t x => [.str (sD s), ofD (dT t), .str (dX x)]
  | .answer n => [.int n]
  | .grow t => [ofD (dT t)]
  | .list t => [ofD (dT t)]
  | .test c n => [ofD (dC c), .int (n : Int)]
  | .jump n => [.int (n : Int)]
theorem oI_eq (i : In) : oI i = .ktp (.str (wI i) :: pI i) := by cases i <;> rfl
def isWt : In → Bool
  | .wait _ => true
  | _ => false
theorem nw (z : Str) (h : decide (z = "wait") = false) : decide (z = "wait") = false := h
theorem wI_wait (i : In) : decide (wI i = "wait") = isWt i := by
  cases i with
  | wait n => exact decide_eq_true (p := ("wait" : Str) = "wait") rfl
  | set x n => exact nw "set" (by decide +kernel)
  | add x t => exact nw "add" (by decide +kernel)
  | ask s t x => exact nw "ask" (by decide +kernel)
  | answer n => exact nw "answer" (by decide +kernel)
  | grow t => exact nw "grow" (by decide +kernel)
  | list t => exact nw "list" (by decide +kernel)
  | test c n => exact nw "test" (by decide +kernel)
  | jump n => exact nw "jump" (by decide +kernel)
section
variable {S : Sto} {I : Ids} {code : List In} {pos : Int} {kn : List Int} {w : Wk} {i : In}
theorem at_code {w : Nat} (h : code[w]? = some i) : atI (code.map oI) (w : Int) = some (.ktp (.str (wI i) :: pI i)) := by
  rw [← oI_eq]
  exact atI_nat (by rw [List.getElem?_map, h]; rfl)
theorem cost_w {φ : Nat} (h : WAt S I code pos kn w) (hi : code[w.idx]? = some i) : m_Walk_next_cost φ [.ref I.w] S = .ok (.int (cost i)) (S ++ [.lst (pI i)]) := by
  have hw := h.hw
  have hc := h.hc
  have ha := at_code hi
  have hn := get_new (S := S) (o := .lst (pI i))
  have hw' := wI_wait i
  cases i with
  | wait n =>
    have hn := get_new (S := S) (o := .lst [.int n])
    simp! only [m_Walk_next_cost, b_Walk_next_cost, hw, hc, fsW, ha, hw', isWt, hn, pI, cost]
  | _ => simp! only [m_Walk_next_cost, b_Walk_next_cost, hw, hc, fsW, ha, hw', isWt, hn, pI, cost]
/-- what a do_x promises -/
def Did (φ : Nat) (m : List Vl → Sto → Out Vl) (pos : Int) (kn : List Int) (i : In) : Prop := ∀ (S : Sto) (I : Ids) (code : List In) (w : Wk) (p : Nat), WAt S I code pos kn w → S[p]? = some (.lst (pI i)) → I.ls < p → w.asked.length < 90000 → w.listed.length < 90000 → ∃ S', m [.ref I.w, .ref p] S = .ok .non S' ∧ WAt S' I code pos kn (act pos kn i w) ∧ Kp [I.w, I.vr, I.rq, I.ls] S S'
theorem did_set {φ : Nat} {x : Bool} {n : Int} : Did φ (m_do_set φ) pos kn (.set x n) := by
  intro S I code w p h hp hlt ha hl
  have hw := h.hw
  have hv := h.hv
  have vl := vkv_len (a := w.a) (b := w.b)
  refine ⟨_, ?_, h.setV x n, Kp.set (by simp)⟩
  simp! only [m_do_set, b_do_set, hw, hv, fsW, hp, pI, vl]
theorem did_add {φ : Nat} {x : Bool} {t : Tm} : Did φ (m_do_add φ) pos kn (.add x t) := by
  intro S I code w p h hp hlt ha hl
  have hw := h.hw
  have hv := h.hv
  have vl := vkv_len (a := w.a) (b := w.b)
  have ht := term_w (φ := φ) (t := t) h
  have gv := get_vkv (a := w.a) (b := w.b) x
  refine ⟨_, ?_, h.setV x ((w.var x + tmv t w) % 16), Kp.set (by simp)⟩
  simp! only [m_do_add, b_do_add, hw, hv, fsW, hp, pI, vl, ht, gv, Wk.var]
theorem did_wait {φ : Nat} {n : Int} : Did φ (m_do_wait φ) pos kn (.wait n) := by
  intro S I code w p h hp hlt ha hl
  have hw := h.hw
  refine ⟨_, ?_, h.setW (w' := { w with rep := none }) rfl rfl rfl rfl, Kp.set (by simp)⟩
  simp! only [m_do_wait, b_do_wait, hw, fsW, hp, pI, repV]
theorem did_answer {φ : Nat} {n : Int} : Did φ (m_do_answer φ) pos kn (.answer n) := by
  intro S I code w p h hp hlt ha hl
  have hw := h.hw
  refine ⟨_, ?_, h.setW (w' := { w with rep := some n }) rfl rfl rfl rfl, Kp.set (by simp)⟩
  simp! only [m_do_answer, b_do_answer, hw, fsW, hp, pI, repV]
theorem did_grow {φ : Nat} {t : Tm} : Did φ (m_do_grow φ) pos kn (.grow t) := by
  intro S I code w p h hp hlt ha hl
  have hw := h.hw
  have ht := term_w (φ := φ) (t := t) h
  refine ⟨_, ?_, h.setW (w' := { w with ct := w.ct + tmv t w }) rfl rfl rfl rfl, Kp.set (by simp)⟩
  simp! only [m_do_grow, b_do_grow, hw, fsW, hp, pI, ht]
theorem did_list {φ : Nat} {t : Tm} : Did φ (m_do_list φ) pos kn (.list t) := by
  intro S I code w p h hp hlt ha hl
  have hw := h.hw
  have hls := h.hl
  have ht := term_w (φ := φ) (t := t) h
  have hlen : (lsv w.listed).length < 100000 := by unfold lsv; rw [List.length_map]; omega
  refine ⟨_, ?_, h.setL (w.st, w.ct + tmv t w), Kp.set (by simp)⟩
  simp! only [m_do_list, b_do_list, hw, hls, fsW, hp, pI, ht, hlen]
theorem did_jump {φ : Nat} {n : Nat} : Did φ (m_do_jump φ) pos kn (.jump n) := by
  intro S I code w p h hp hlt ha hl
  have hw := h.hw
  refine ⟨_, ?_, h.setW (w' := { w with idx := n }) rfl rfl rfl rfl, Kp.set (by simp)⟩
  simp! only [m_do_jump, b_do_jump, hw, fsW, hp, pI]
end

/-! ### ask, test, execute -/
theorem q1 : decide (("-" : Str) = "+") = false := by decide +kernel
theorem q2 : decide (("=" : Str) = "+") = false := by decide +kernel
theorem q3 : decide (("=" : Str) = "-") = false := by decide +kernel
theorem q4 : decide (("==" : Str) = "<") = false := by decide +kernel
theorem q5 : decide (("!=" : Str) = "<") = false := by decide +kernel
theorem q6 : decide (("!=" : Str) = "==") = false := by decide +kernel
theorem vEq_bl {a b : Bool} {S : Sto} : vEq (.bl a) (.bl b) S = .ok (.bl (a == b)) S := by
  show Out.ok (Vl.bl (PyData.eqv (.bool a) (.bool b))) S = _
  cases a <;> cases b <;> rfl
theorem b_t (b : Bool) : (b == true) = b := by cases b <;> rfl
theorem b_f (b : Bool) : (b == false) = !b := by cases b <;> rfl
theorem ofC (c : Cd) : ofD (dC c) = .ktp [.str (dX c.x), .str (sG c.s), ofD (dT c.t)] := rfl
section
variable {S : Sto} {I : Ids} {code : List In} {pos : Int} {kn : List Int} {w : Wk} {i : In}
theorem true_w {φ : Nat} {c : Cd} (h : WAt S I code pos kn w) : m_is_true φ [.ref I.w, ofD (dC c)] S = .ok (.bl (cdv c w)) S := by
  have hw := h.hw
  have hv := h.hv
  have ht := term_w (φ := φ) (t := c.t) h
  have gv := get_vkv (a := w.a) (b := w.b) c.x
  rw [ofC]
  cases hs : c.s with
  | eq => 
    simp! only [m_is_true, b_is_true, hw, hv, fsW, ht, gv, sG, q4, vEq_bl, cdv, hs, Wk.var, b_t]
    rfl
  | ne =>
    simp! only [m_is_true, b_is_true, hw, hv, fsW, ht, gv, sG, q5, q6, vEq_bl, cdv, hs, Wk.var, b_f]
    rfl
  | lt =>
    simp! only [m_is_true, b_is_true, hw, hv, fsW, ht, gv, sG, cdv, hs, Wk.var]
    rfl
theorem did_test {φ : Nat} {c : Cd} {n : Nat} : Did φ (m_do_test φ) pos kn (.test c n) := by
  intro S I code w p h hp hlt ha hl
  have hw := h.hw
  have ht := true_w (φ := φ) (c := c) h
  by_cases hc : cdv c w = true
  · refine ⟨S, ?_, ?_, .refl⟩
    · simp! only [m_do_test, b_do_test, hw, fsW, hp, pI, ht, hc]
    · show WAt _ _ _ _ _ (if cdv c w = true then w else { w with idx := n }); rw [if_pos hc]; exact h
  · refine ⟨_, ?_, ?_, Kp.set (i := I.w) (o := .ins 33 (fsW I pos { w with idx := n })) (by simp)⟩
    · have hc := Bool.eq_false_iff.mpr hc
      simp! only [m_do_test, b_do_test, hw, fsW, hp, pI, ht, hc]
    · show WAt _ _ _ _ _ (if cdv c w = true then w else { w with idx := n }); rw [if_neg hc]; exact h.setW rfl rfl rfl rfl
theorem did_ask {φ : Nat} {s : Di} {t : Tm} {x : Bool} : Did φ (m_do_ask φ) pos kn (.ask s t x) := by
  intro S I code w p h hp hlt ha hl
  have hw := h.hw
  have hv := h.hv
  have hr := h.hr
  have hk := h.hk
  have o := h.ord
  have ht := term_w (φ := φ) (t := t) h
  have vl := vkv_len (a := w.a) (b := w.b)
  have rl : (rqv w.asked).length < 100000 := by unfold rqv; rw [List.length_map]; omega
  have gk := get_rqv (k := plc s pos (tmv t w)) (l := kn)
  have hg : (getK (rqv kn) (.inl (plc s pos (tmv t w)))).isSome = decide (plc s pos (tmv t w) ∈ kn) := by
    rw [gk]; split
    · rename_i q; rw [decide_eq_true q]; rfl
    · rename_i q; rw [decide_eq_false q]; rfl
  by_cases hq : 0 ≤ plc s pos (tmv t w)
  · have h1 := h.setR (plc s pos (tmv t w))
    have h2 := h1.setV x (if 0 ≤ plc s pos (tmv t w) ∧ plc s pos (tmv t w) ∈ kn then 1 else 0)
    have w1 := h1.hw
    have v1 := h1.hv
    have k1 := h1.hk
    refine ⟨_, ?_, ?_, (Kp.set (i := I.rq) (o := .dk (setK (rqv w.asked) (.inl (plc s pos (tmv t w))) (.bl true))) (by simp)).trans (Kp.set (i := I.vr) (o := .dk (setK (vkv w.a w.b) (.inr (dX x)) (.int (if 0 ≤ plc s pos (tmv t w) ∧ plc s pos (tmv t w) ∈ kn then 1 else 0)))) (by simp))⟩
    · cases s with
      | pl =>
        simp only [plc] at hq hg w1 v1 k1 ⊢
        simp! only [m_do_ask, b_do_ask, hw, hv, hr, fsW, hp, pI, ht, sD, hq, rl, w1, v1, k1, hg, vl]
        by_cases hm : pos + tmv t w ∈ kn <;> simp only [hm, decide_true, decide_false, if_true, if_false, Bool.false_eq_true]
      | mi =>
        simp only [plc] at hq hg w1 v1 k1 ⊢
        simp! only [m_do_ask, b_do_ask, hw, hv, hr, fsW, hp, pI, ht, sD, q1, hq, rl, w1, v1, k1, hg, vl]
        by_cases hm : pos - tmv t w ∈ kn <;> simp only [hm, decide_true, decide_false, if_true, if_false, Bool.false_eq_true]
      | at_ =>
        simp only [plc] at hq hg w1 v1 k1 ⊢
        simp! only [m_do_ask, b_do_ask, hw, hv, hr, fsW, hp, pI, ht, sD, q2, q3, hq, rl, w1, v1, k1, hg, vl]
        by_cases hm : tmv t w ∈ kn <;> simp only [hm, decide_true, decide_false, if_true, if_false, Bool.false_eq_true]
    · show WAt _ _ _ _ _ { w.sv x (if 0 ≤ plc s pos (tmv t w) ∧ plc s pos (tmv t w) ∈ kn then 1 else 0) with asked := if 0 ≤ plc s pos (tmv t w) then insK w.asked (plc s pos (tmv t w)) else w.asked }
      rw [if_pos (c := 0 ≤ plc s pos (tmv t w)) hq]
      exact h2
  · have h2 := h.setV x 0
    refine ⟨_, ?_, ?_, (Kp.set (i := I.vr) (o := .dk (setK (vkv w.a w.b) (.inr (dX x)) (.int 0))) (by simp))⟩
    · cases s with
      | pl =>
        simp only [plc] at hq ⊢
        simp! only [m_do_ask, b_do_ask, hw, hv, hr, fsW, hp, pI, ht, sD, hq, vl]
      | mi =>
        simp only [plc] at hq ⊢
        simp! only [m_do_ask, b_do_ask, hw, hv, hr, fsW, hp, pI, ht, sD, q1, hq, vl]
      | at_ =>
        simp only [plc] at hq ⊢
        simp! only [m_do_ask, b_do_ask, hw, hv, hr, fsW, hp, pI, ht, sD, q2, q3, hq, vl]
    · show WAt _ _ _ _ _ { w.sv x (if 0 ≤ plc s pos (tmv t w) ∧ plc s pos (tmv t w) ∈ kn then 1 else 0) with asked := if 0 ≤ plc s pos (tmv t w) then insK w.asked (plc s pos (tmv t w)) else w.asked }
      rw [if_neg (c := 0 ≤ plc s pos (tmv t w)) hq, if_neg (fun e => hq e.1)]
      exact h2
end

/-! ### execute -/
noncomputable def mDo (φ : Nat) : In → List Vl → Sto → Out Vl
  | .wait _ => m_do_wait φ
  | .set _ _ => m_do_set φ
  | .add _ _ => m_do_add φ
  | .ask _ _ _ => m_do_ask φ
  | .answer _ => m_do_answer φ
  | .grow _ => m_do_grow φ
  | .list _ => m_do_list φ
  | .test _ _ => m_do_test φ
  | .jump _ => m_do_jump φ
def fDo : In → Nat
  | .wait _ => 37
  | .set _ _ => 35
  | .add _ _ => 36
  | .ask _ _ _ => 38
  | .answer _ => 39
  | .grow _ => 40
  | .list _ => 41
  | .test _ _ => 42
  | .jump _ => 43
theorem did_all {φ : Nat} {pos : Int} {kn : List Int} (i : In) : Did φ (mDo φ i) pos kn i := by
  cases i with
  | wait n => exact did_wait
  | set x n => exact did_set
  | add x t => exact did_add
  | ask s t x => exact did_ask
  | answer n => exact did_answer
  | grow t => exact did_grow
  | list t => exact did_list
  | test c n => exact did_test
  | jump n => exact did_jump
theorem lk (z : Str) (v : Vl) (h : (tb_ACTIONS.lookup z) = some v) : tb_ACTIONS.lookup z = some v := h
theorem look_do (i : In) : tb_ACTIONS.lookup (wI i) = some (.fn (fDo i)) := by
  cases i with
  | wait n => exact lk "wait" (.fn 37) rfl
  | set x n => exact lk "set" (.fn 35) rfl
  | add x t => exact lk "add" (.fn 36) rfl
  | ask s t x => exact lk "ask" (.fn 38) rfl
  | answer n => exact lk "answer" (.fn 39) rfl
  | grow t => exact lk "grow" (.fn 40) rfl
  | list t => exact lk "list" (.fn 41) rfl
  | test c n => exact lk "test" (.fn 42) rfl
  | jump n => exact lk "jump" (.fn 43) rfl
section
variable {S : Sto} {I : Ids} {code : List In} {pos : Int} {kn : List Int} {w : Wk} {i : In}
theorem exec_w {φ : Nat} (h : WAt S I code pos kn w) (hi : code[w.idx]? = some i) (ha : w.asked.length < 90000) (hl : w.listed.length < 90000) : ∃ S', m_Walk_execute φ [.ref I.w] S = .ok .non S' ∧ WAt S' I code pos kn (stepW pos kn i w) ∧ Kp [I.w, I.vr, I.rq, I.ls] S S' := by
  have o := h.ord
  have hlen : I.ls < S.length := get_lt h.hl
  have h0 := cost_w (φ := φ) h hi
  have h1 := h.app (T := [Ob.lst (pI i)])
  have h2 := h1.setW (w' := { w with st := w.st + cost i }) rfl rfl rfl rfl
  have h3 := h2.app (T := [Ob.lst (pI i)])
  have h4 := h3.setW (w' := { w with st := w.st + cost i, idx := w.idx + 1 }) rfl rfl rfl rfl
  have g3 := get_new (S := (S ++ [Ob.lst (pI i)]).set I.w (Ob.ins 33 (fsW I pos { w with st := w.st + cost i }))) (o := Ob.lst (pI i))
  have hl3 : ((S ++ [Ob.lst (pI i)]).set I.w (Ob.ins 33 (fsW I pos { w with st := w.st + cost i }))).length = S.length + 1 := by rw [List.length_set, List.length_append]; rfl
  have hp := (get_set_ne (S := (S ++ [Ob.lst (pI i)]).set I.w (Ob.ins 33 (fsW I pos { w with st := w.st + cost i })) ++ [Ob.lst (pI i)]) (i := I.w) (p := Ob.ins 33 (fsW I pos { w with st := w.st + cost i, idx := w.idx + 1 })) (by rw [hl3]; omega)).trans g3
  obtain ⟨S5, h5, w5, k5⟩ := did_all (φ := φ) (pos := pos) (kn := kn) i _ I code _ _ h4 hp (by rw [hl3]; omega) ha hl
  refine ⟨S5, ?_, w5, (Kp.app (T := [Ob.lst (pI i)])).trans ((Kp.set (i := I.w) (by simp)).trans ((Kp.app (T := [Ob.lst (pI i)])).trans ((Kp.set (i := I.w) (by simp)).trans k5)))⟩
  have hw0 := h.hw
  have hw1 := h1.hw
  have hw2 := h2.hw
  have hc2 := h2.hc
  have hw3 := h3.hw
  have hac := at_code hi
  have hld := look_do i
  simp only [fsW, Int.natCast_add, Int.cast_ofNat_Int] at hw0 hw1 hw2 hc2 hw3 h5
  cases i <;> (simp only [mDo] at h5; simp! only [m_Walk_execute, b_Walk_execute, hw0, h0, hw1, hw2, hc2, hac, hw3, hld, fDo, h5])
end

/-! ### runs, by themselves -/
abbrev S3 := Nat × Int × Int
abbrev Seen := List (S3 × Int)
def sOf (w : Wk) : S3 := (w.idx, w.a, w.b)
def lkS (seen : Seen) (s : S3) : Option Int := (seen.find? fun p => decide (p.1 = s)).map (·.2)
def ovr (lim : Option Int) (x : Int) : Bool := match lim with
  | none => false
  | some l => decide (l < x)
def flw (pos : Int) (kn : List Int) (code : List In) (lim : Option Int) : Nat → Seen → Wk → Seen × Wk
  | 0, seen, w => (seen, w)
  | n + 1, seen, w => match code[w.idx]? with
    | none => (seen, w)
    | some i => if w.rep.isSome = true then (seen, w) else if (lkS seen (sOf w)).isSome = true then (seen, w) else if ovr lim (w.st + cost i) = true then (seen, w) else flw pos kn code lim n (seen ++ [(sOf w, w.st)]) (stepW pos kn i w)
def okI (L : Nat) : In → Prop
  | .set _ n => 0 ≤ n ∧ n ≤ 15
  | .test _ n => n ≤ L
  | .jump n => n ≤ L
  | .wait n => 1 ≤ n
  | .answer n => 0 ≤ n ∧ n ≤ 1
  | .ask _ t _ => okT t
  | _ => True
theorem okI.mono {L M : Nat} {i : In} (h : okI L i) (hl : L ≤ M) : okI M i := by
  cases i <;> first | exact h | exact Nat.le_trans h hl
mutual
theorem cS_ok {col : Bool} : ∀ {f : Nat} {s : Stm} {n : Nat}, okS col f s → ∀ i, i ∈ cS n s → okI (n + (cS n s).length) i
  | f, .wait k, n, h => by rw [okS] at h; rw [cS]; intro i hi; rw [List.mem_singleton.mp hi]; exact h.1
  | f, .set x k, n, h => by rw [okS] at h; rw [cS]; intro i hi; rw [List.mem_singleton.mp hi]; exact h
  | f, .add x t, n, h => by rw [cS]; intro i hi; rw [List.mem_singleton.mp hi]; trivial
  | f, .ask s t x, n, h => by rw [okS] at h; rw [cS]; intro i hi; rw [List.mem_singleton.mp hi]; exact h.1
  | f, .answer k, n, h => by rw [okS] at h; rw [cS]; intro i hi; rw [List.mem_singleton.mp hi]; exact h.1
  | f, .grow t, n, h => by rw [cS]; intro i hi; rw [List.mem_singleton.mp hi]; trivial
  | f, .list t, n, h => by rw [cS]; intro i hi; rw [List.mem_singleton.mp hi]; trivial
  | f, .whl c b, n, h => by
    rw [okS] at h
    rw [cS]
    intro i hi
    simp only [List.length_cons, List.length_append, List.length_nil]
    rcases List.mem_cons.mp hi with rfl | hi
    · show n + _ + 2 ≤ _; omega
    · rcases List.mem_append.mp hi with hi | hi
      · exact (cB_ok h.2 i hi).mono (by omega)
      · rw [List.mem_singleton.mp hi]; show n ≤ _; omega
  | f, .ite c b [], n, h => by
    rw [okS] at h
    rw [cS]
    intro i hi
    simp only [List.length_cons]
    rcases List.mem_cons.mp hi with rfl | hi
    · show n + _ + 1 ≤ _; omega
    · exact (cB_ok h.2.1 i hi).mono (by omega)
  | f, .ite c b (s :: ss), n, h => by
    rw [okS] at h
    rw [cS]
    generalize hk : n + (cB (n + 1) b).length + 2 = k
    intro i hi
    simp only [List.length_cons, List.length_append] at hi ⊢
    rcases List.mem_cons.mp hi with rfl | hi
    · show k ≤ _; omega
    · rcases List.mem_append.mp hi with hi | hi
      · exact (cB_ok h.2.1 i hi).mono (by omega)
      · rcases List.mem_cons.mp hi with rfl | hi
        · show k + _ ≤ _; omega
        · cases f with
          | zero => have := h.2.2; rw [okB] at this; exact this.elim
          | succ f =>
            have h3 := h.2.2
            rw [okB] at h3
            rcases List.mem_append.mp hi with hi | hi
            · exact (cS_ok h3.1 i hi).mono (by omega)
            · exact (cB_ok h3.2 i hi).mono (by omega)
theorem cB_ok {col : Bool} : ∀ {f : Nat} {b : List Stm} {n : Nat}, okB col f b → ∀ i, i ∈ cB n b → okI (n + (cB n b).length) i
  | f, [], n, _ => by rw [cB]; intro i hi; exact absurd hi List.not_mem_nil
  | 0, s :: ss, n, h => by rw [okB] at h; exact h.elim
  | f + 1, s :: ss, n, h => by
    rw [okB] at h
    rw [cB]
    intro i hi
    rw [List.length_append]
    rcases List.mem_append.mp hi with hi | hi
    · exact (cS_ok h.1 i hi).mono (by omega)
    · exact (cB_ok h.2 i hi).mono (by omega)
end
mutual
theorem cS_len : ∀ (s : Stm) (n : Nat), (cS n s).length ≤ 2 * szS s
  | .wait k, n => by rw [cS]; show 1 ≤ 2 * 1; omega
  | .set x k, n => by rw [cS]; show 1 ≤ 2 * 1; omega
  | .add x t, n => by rw [cS]; show 1 ≤ 2 * 1; omega
  | .ask s t x, n => by rw [cS]; show 1 ≤ 2 * 1; omega
  | .answer k, n => by rw [cS]; show 1 ≤ 2 * 1; omega
  | .grow t, n => by rw [cS]; show 1 ≤ 2 * 1; omega
  | .list t, n => by rw [cS]; show 1 ≤ 2 * 1; omega
  | .whl c b, n => by
    have := cB_len b (n + 1)
    rw [cS, szS]
    simp only [List.length_cons, List.length_append, List.length_nil]; omega
  | .ite c b [], n => by
    have := cB_len b (n + 1)
    rw [cS, szS]
    simp only [List.length_cons]; omega
  | .ite c b (s :: ss), n => by
    have h1 := cB_len b (n + 1)
    rw [cS, szS, szB]
    generalize n + (cB (n + 1) b).length + 2 = k
    have h2 := cS_len s k
    have h3 := cB_len ss (k + (cS k s).length)
    simp only [List.length_cons, List.length_append]; omega
theorem cB_len : ∀ (b : List Stm) (n : Nat), (cB n b).length ≤ 2 * szB b
  | [], n => by rw [cB]; exact Nat.zero_le _
  | s :: ss, n => by
    have h2 := cS_len s n
    have h3 := cB_len ss (n + (cS n s).length)
    rw [cB, szB, List.length_append]; omega
end
structure GoodW (L : Nat) (w : Wk) : Prop where
  i : w.idx ≤ L
  a : 0 ≤ w.a ∧ w.a < 16
  b : 0 ≤ w.b ∧ w.b < 16
theorem GoodW.sv {L : Nat} {w : Wk} (h : GoodW L w) (x : Bool) {v : Int} (hv : 0 ≤ v ∧ v < 16) : GoodW L (w.sv x v) := by
  cases x
  · exact ⟨h.i, hv, h.b⟩
  · exact ⟨h.i, h.a, hv⟩
theorem step_good {L : Nat} {w : Wk} {pos : Int} {kn : List Int} {i : In} (h : GoodW L w) (hi : w.idx < L) (ho : okI L i) : GoodW L (stepW pos kn i w) := by
  have h1 : GoodW L { w with idx := w.idx + 1, st := w.st + cost i } := ⟨hi, h.a, h.b⟩
  cases i with
  | wait n => exact ⟨h1.i, h1.a, h1.b⟩
  | set x n => exact h1.sv x ⟨ho.1, by have := ho.2; omega⟩
  | add x t => exact h1.sv x ⟨Int.emod_nonneg _ (by omega), Int.emod_lt_of_pos _ (by omega)⟩
  | ask s t x =>
    have h2 := h1.sv x (v := if 0 ≤ plc s pos (tmv t { w with idx := w.idx + 1, st := w.st + cost (.ask s t x) }) ∧ plc s pos (tmv t { w with idx := w.idx + 1, st := w.st + cost (.ask s t x) }) ∈ kn then 1 else 0) (by split <;> omega)
    exact ⟨h2.i, h2.a, h2.b⟩
  | answer n => exact ⟨h1.i, h1.a, h1.b⟩
  | grow t => exact ⟨h1.i, h1.a, h1.b⟩
  | list t => exact ⟨h1.i, h1.a, h1.b⟩
  | test c n =>
    show GoodW L (if _ then _ else _)
    split
    · exact h1
    · exact ⟨ho, h1.a, h1.b⟩
  | jump n => exact ⟨ho, h1.a, h1.b⟩
/-! pigeons -/
theorem pigeon : ∀ (N : Nat) (l : List Nat), l.Nodup → (∀ x, x ∈ l → x < N) → l.length ≤ N
  | 0, l, _, h => by
    cases l with
    | nil => exact Nat.le_refl _
    | cons x l => exact absurd (h x (List.mem_cons_self ..)) (Nat.not_lt_zero _)
  | N + 1, l, hn, h => by
    have h1 := pigeon N (l.erase N) (hn.erase N) (fun x hx => by
      have h2 := h x (List.mem_of_mem_erase hx)
      have h3 : x ≠ N := by
        rintro rfl
        exact (List.Nodup.not_mem_erase hn) hx
      omega)
    have := List.length_erase_le (a := N) (l := l)
    rw [List.length_erase] at h1
    split at h1 <;> omega

/-! ### the states that were seen -/
def kS (s : S3) : List Key := [.inl (s.1 : Int), .inl s.2.1, .inl s.2.2]
theorem kS_inj {s t : S3} (h : kS s = kS t) : s = t := by
  obtain ⟨a, b, c⟩ := s
  obtain ⟨a', b', c'⟩ := t
  unfold kS at h
  injection h with h1 h
  injection h with h2 h
  injection h with h3 h
  injection h1 with h1
  injection h2 with h2
  injection h3 with h3
  have h1 : a = a' := by omega
  subst h1; subst h2; subst h3; rfl
def svS (seen : Seen) : List (List Key × Vl) := seen.map fun p => (kS p.1, Vl.int p.2)
theorem get_svS {s : S3} : ∀ {seen : Seen}, getK (svS seen) (kS s) = (lkS seen s).map Vl.int
  | [] => rfl
  | p :: seen => by
    have ih := get_svS (s := s) (seen := seen)
    unfold getK svS lkS at ih ⊢
    rw [List.map_cons, List.find?_cons, List.find?_cons]
    by_cases h : p.1 = s
    · rw [decide_eq_true h, decide_eq_true (by rw [h])]; rfl
    · rw [decide_eq_false h, decide_eq_false (fun e => h (kS_inj e)), ih]
theorem lkS_none {s : S3} {seen : Seen} (h : lkS seen s = none) : ∀ p, p ∈ seen → p.1 ≠ s := by
  intro p hp e
  unfold lkS at h
  rw [Option.map_eq_none_iff, List.find?_eq_none] at h
  exact h p hp (decide_eq_true e)
theorem set_svS {s : S3} {n : Int} {seen : Seen} (h : lkS seen s = none) : setK (svS seen) (kS s) (.int n) = svS (seen ++ [(s, n)]) := by
  have ha : (svS seen).any (fun kv => decide (kv.1 = kS s)) = false := by
    rw [List.any_eq_false]
    intro kv hkv
    unfold svS at hkv
    obtain ⟨p, hp, rfl⟩ := List.mem_map.mp hkv
    intro e
    exact lkS_none h p hp (kS_inj (of_decide_eq_true e))
  unfold setK
  rw [ha, if_neg Bool.false_ne_true]
  unfold svS
  rw [List.map_append]; rfl
/-- the states seen: none twice, all within bounds -/
structure SeenOk (L : Nat) (seen : Seen) : Prop where
  nd : (seen.map (·.1)).Nodup
  bd : ∀ p, p ∈ seen → p.1.1 < L ∧ (0 ≤ p.1.2.1 ∧ p.1.2.1 < 16) ∧ (0 ≤ p.1.2.2 ∧ p.1.2.2 < 16)
theorem SeenOk.nil {L : Nat} : SeenOk L [] := ⟨List.nodup_nil, fun p hp => absurd hp List.not_mem_nil⟩
theorem SeenOk.snoc {L : Nat} {seen : Seen} {w : Wk} {n : Int} (h : SeenOk L seen) (hs : lkS seen (sOf w) = none) (hg : GoodW L w) (hi : w.idx < L) : SeenOk L (seen ++ [(sOf w, n)]) := by
  refine ⟨?_, fun p hp => ?_⟩
  · rw [List.map_append, List.nodup_append]
    refine ⟨h.nd, by simp, fun a ha b hb => ?_⟩
    obtain ⟨p, hp, rfl⟩ := List.mem_map.mp ha
    rw [List.mem_singleton.mp hb]
    exact lkS_none hs p hp
  · rcases List.mem_append.mp hp with hp | hp
    · exact h.bd p hp
    · rw [List.mem_singleton.mp hp]; exact ⟨hi, hg.a, hg.b⟩
def cdS (s : S3) : Nat := s.1 * 256 + s.2.1.toNat * 16 + s.2.2.toNat
theorem SeenOk.len {L : Nat} {seen : Seen} (h : SeenOk L seen) : seen.length ≤ L * 256 := by
  have h1 : ((seen.map (·.1)).map cdS).Nodup := by
    rw [List.nodup_iff_pairwise_ne, List.pairwise_map]
    refine List.Pairwise.imp_of_mem ?_ h.nd
    intro s t hs ht hne e
    obtain ⟨p, hp, rfl⟩ := List.mem_map.mp hs
    obtain ⟨q, hq, rfl⟩ := List.mem_map.mp ht
    have b1 := h.bd p hp
    have b2 := h.bd q hq
    obtain ⟨⟨a, b, c⟩, n⟩ := p
    obtain ⟨⟨a', b', c'⟩, n'⟩ := q
    unfold cdS at e
    dsimp only at e b1 b2
    apply hne
    show (a, b, c) = (a', b', c')
    have e1 : a = a' := by omega
    have e2 : b = b' := by omega
    have e3 : c = c' := by omega
    rw [e1, e2, e3]
  have := pigeon (L * 256) _ h1 (fun x hx => by
    obtain ⟨s, hs, rfl⟩ := List.mem_map.mp hx
    obtain ⟨p, hp, rfl⟩ := List.mem_map.mp hs
    have b1 := h.bd p hp
    unfold cdS
    omega)
  rw [List.length_map, List.length_map] at this
  exact this

/-! ### follow -/
theorem aD3 {a b c : Int} : allD toK [.int a, .int b, .int c] = some [.inl a, .inl b, .inl c] := rfl
theorem step_asked {pos : Int} {kn : List Int} {i : In} {w : Wk} : (stepW pos kn i w).asked.length ≤ w.asked.length + 1 := by
  cases i with
  | ask s t x =>
    show (if _ then _ else _ : List Int).length ≤ _
    split
    · exact insK_len _ _
    · exact Nat.le_succ _
  | test c n =>
    show (if _ then _ else _ : Wk).asked.length ≤ _
    split <;> exact Nat.le_succ _
  | _ => exact Nat.le_succ _
theorem step_listed {pos : Int} {kn : List Int} {i : In} {w : Wk} : (stepW pos kn i w).listed.length ≤ w.listed.length + 1 := by
  cases i with
  | list t =>
    show (w.listed ++ [_]).length ≤ _
    rw [List.length_append]; exact Nat.le_refl _
  | test c n =>
    show (if _ then _ else _ : Wk).listed.length ≤ _
    split <;> exact Nat.le_succ _
  | _ => exact Nat.le_succ _
theorem WAt.oth {S : Sto} {I : Ids} {code : List In} {pos : Int} {kn : List Int} {w : Wk} {q : Nat} {o : Ob} (h : WAt S I code pos kn w) (hq : I.ls < q) : WAt (S.set q o) I code pos kn w := by
  have od := h.ord
  exact ⟨by rw [get_set_ne (by omega)]; exact h.hw, by rw [get_set_ne (by omega)]; exact h.hc, by rw [get_set_ne (by omega)]; exact h.hk, by rw [get_set_ne (by omega)]; exact h.hv, by rw [get_set_ne (by omega)]; exact h.hr, by rw [get_set_ne (by omega)]; exact h.hl, od⟩
theorem svS_len {seen : Seen} : (svS seen).length = seen.length := by unfold svS; rw [List.length_map]
/-- where a run stands behind follow -/
structure Flwd (S S' : Sto) (I : Ids) (code : List In) (pos : Int) (kn : List Int) (q : Nat) (r : Seen × Wk) : Prop where
  w : WAt S' I code pos kn r.2
  s : S'[q]? = some (.dt (svS r.1))
  k : Kp [I.w, I.vr, I.rq, I.ls] S S'
  o : SeenOk code.length r.1
  g : GoodW code.length r.2
theorem nw4 {S : Sto} {I : Ids} {code : List In} {pos : Int} {kn : List Int} {w : Wk} (h : WAt S I code pos kn w) {q : Nat} (hq : I.ls < q) : q ∉ [I.w, I.vr, I.rq, I.ls] := by
  have od := h.ord
  intro e
  simp only [List.mem_cons, List.not_mem_nil, or_false] at e
  omega
theorem follow_w {φ : Nat} {S : Sto} {I : Ids} {code : List In} {pos : Int} {kn : List Int} {w0 : Wk} {lim : Option Int} (hφ : 20000 < φ) (hL : code.length ≤ 60) (hC : ∀ i, i ∈ code → okI code.length i) (h0 : WAt S I code pos kn w0) (g0 : GoodW code.length w0) (ha0 : w0.asked = []) (hl0 : w0.listed = []) :
    ∃ S', m_follow φ [.ref I.w, repV lim] S = .ok (.ref S.length) S' ∧ Flwd S S' I code pos kn S.length (flw pos kn code lim (code.length * 256 + 1) [] w0) := by
  have hlen : I.ls < S.length := get_lt h0.hl
  obtain ⟨o, S', h1, h2, h3⟩ := whileZ_ret (t := t1_follow φ) (f := l1_follow φ)
    (fun n env S' => ∃ seen w, env = [some (.ref I.w), some (repV lim), some (.ref S.length)] ∧ Flwd S S' I code pos kn S.length (seen, w) ∧ n + seen.length = code.length * 256 + 1 ∧ w.asked.length ≤ seen.length ∧ w.listed.length ≤ seen.length ∧ flw pos kn code lim n seen w = flw pos kn code lim (code.length * 256 + 1) [] w0)
    (fun o S' => (o = .nx [some (.ref I.w), some (repV lim), some (.ref S.length)] ∨ o = .rt (.ref S.length)) ∧ Flwd S S' I code pos kn S.length (flw pos kn code lim (code.length * 256 + 1) [] w0)) (fun n env S' ⟨seen, w, he, F, hn, hla, hll, hf⟩ => by
      subst he
      have hw := F.w.hw
      have hs := F.s
      have hlS := F.o.len
      dsimp only at hlS hs
      have ho := over_w (φ := φ) F.w
      have hst := state_w (φ := φ) F.w
      have hgt : getK (svS seen) [.inl (w.idx : Int), .inl w.a, .inl w.b] = (lkS seen (sOf w)).map Vl.int := get_svS (s := sOf w)
      obtain ⟨n, rfl⟩ : ∃ m, n = m + 1 := ⟨n - 1, by omega⟩
      dsimp only at ho hst hw
      by_cases c1 : (w.rep.isSome || decide (w.idx = code.length)) = true
      · refine .inl ⟨S', ?_, .inl rfl, ?_⟩
        · simp only [c1] at ho
          simp! only [t1_follow, hw, fsW, ho]
        · rw [← hf]
          have : flw pos kn code lim (n + 1) seen w = (seen, w) := by
            rw [flw]
            split
            · rfl
            · rename_i i hi
              rcases Bool.or_eq_true_iff.mp c1 with c | c
              · rw [if_pos c]
              · have := of_decide_eq_true c
                rw [this, List.getElem?_eq_none (Nat.le_refl _)] at hi; cases hi
          rw [this]; exact F
      · have c1 := Bool.eq_false_iff.mpr c1
        obtain ⟨c2, c3⟩ := Bool.or_eq_false_iff.mp c1
        have hi : w.idx < code.length := by
          have h1 := F.g.i
          have h2 := of_decide_eq_false c3
          dsimp only at h1
          omega
        have hci : code[w.idx]? = some code[w.idx] := List.getElem?_eq_getElem hi
        have hok := hC _ (List.getElem_mem hi)
        generalize code[w.idx] = i at hci hok
        simp only [c1] at ho
        cases hlk : lkS seen (sOf w) with
        | some v =>
          refine .inl ⟨S', ?_, .inl rfl, ?_⟩
          · simp! only [t1_follow, hw, fsW, ho, hst, hs, aD3, hgt, hlk, Option.map_some]
          · rw [← hf]
            have : flw pos kn code lim (n + 1) seen w = (seen, w) := by
              rw [flw, hci]
              dsimp only
              rw [if_neg (by rw [c2]; exact Bool.false_ne_true), if_pos (by rw [hlk]; rfl)]
            rw [this]; exact F
        | none =>
          have ht : t1_follow φ [some (.ref I.w), some (repV lim), some (.ref S.length)] S' = .ok true S' := by
            simp! only [t1_follow, hw, fsW, ho, hst, hs, aD3, hgt, hlk, Option.map_none]
          have hfl : flw pos kn code lim (n + 1) seen w = if ovr lim (w.st + cost i) = true then (seen, w) else flw pos kn code lim n (seen ++ [(sOf w, w.st)]) (stepW pos kn i w) := by
            rw [flw, hci]
            dsimp only
            rw [if_neg (by rw [c2]; exact Bool.false_ne_true), if_neg (by rw [hlk]; exact Bool.false_ne_true)]
          have hco := cost_w (φ := φ) F.w hci
          have happ : Kp [I.w, I.vr, I.rq, I.ls] S (S' ++ [Ob.lst (pI i)]) := F.k.trans .app
          -- going on from a store
          have go : ∀ S1, WAt S1 I code pos kn w → S1[S.length]? = some (.dt (svS seen)) → Kp [I.w, I.vr, I.rq, I.ls] S S1 → ovr lim (w.st + cost i) = false → (∀ g, sq (zIf (yAnd (yCmp vIsNot (xVar 1) (xC .non)) (yCmp vGt (xOp vAdd (xFld 13 [33] (xVar 0)) (xMeth ((33, ⟨0, 1, 0, (fun xs _ => xs), (m_Walk_next_cost φ)⟩) :: []) (xVar 0) (bArgs aNil aNil))) (xVar 1))) (zSeq (zRet (xVar 2)) zNil) zNil [some (.ref I.w), some (repV lim), some (.ref S.length)] S') g = g [some (.ref I.w), some (repV lim), some (.ref S.length)] S1) → ∃ S1 n' e S2, t1_follow φ [some (.ref I.w), some (repV lim), some (.ref S.length)] S' = .ok true S1 ∧ (l1_follow φ [some (.ref I.w), some (repV lim), some (.ref S.length)] S1 = .ok (.nx e) S2 ∨ l1_follow φ [some (.ref I.w), some (repV lim), some (.ref S.length)] S1 = .ok (.ct e) S2) ∧ n' < n + 1 ∧ ∃ seen w, e = [some (.ref I.w), some (repV lim), some (.ref S.length)] ∧ Flwd S S2 I code pos kn S.length (seen, w) ∧ n' + seen.length = code.length * 256 + 1 ∧ w.asked.length ≤ seen.length ∧ w.listed.length ≤ seen.length ∧ flw pos kn code lim n' seen w = flw pos kn code lim (code.length * 256 + 1) [] w0 := by
            intro S1 W1 s1 k1 hov hif
            have W2 := W1.oth (o := .dt (svS (seen ++ [(sOf w, w.st)]))) hlen
            obtain ⟨S3, e3, W3, k3⟩ := exec_w (φ := φ) W2 hci (by omega) (by omega)
            refine ⟨S', n, [some (.ref I.w), some (repV lim), some (.ref S.length)], S3, ht, .inl ?_, by omega, seen ++ [(sOf w, w.st)], stepW pos kn i w, rfl, ⟨W3, ?_, ?_, F.o.snoc hlk F.g hi, step_good F.g hi hok⟩, ?_, ?_, ?_, ?_⟩
            · have hw1 := W1.hw
              have hst1 := state_w (φ := φ) W1
              have hw2 := W2.hw
              have hset : setK (svS seen) [.inl (w.idx : Int), .inl w.a, .inl w.b] (.int w.st) = svS (seen ++ [(sOf w, w.st)]) := set_svS (s := sOf w) hlk
              have hlt : (svS seen).length < 100000 := by rw [svS_len]; omega
              simp only [fsW] at hw1 hw2
              unfold l1_follow
              rw [zSeq_e, hif]
              simp! only [hw1, hst1, s1, aD3, hset, hlt, hw2, e3]
            · exact k3.get (get_set s1) (nw4 W1 hlen)
            · exact (k1.late (js := [S.length]) (Kp.set (by simp)) (fun j hj => by rw [List.mem_singleton] at hj; omega)).trans k3
            · rw [List.length_append]; show n + (seen.length + 1) = _; omega
            · have := step_asked (pos := pos) (kn := kn) (i := i) (w := w)
              rw [List.length_append]; show _ ≤ seen.length + 1; omega
            · have := step_listed (pos := pos) (kn := kn) (i := i) (w := w)
              rw [List.length_append]; show _ ≤ seen.length + 1; omega
            · rw [← hf, hfl, if_neg (by rw [hov]; exact Bool.false_ne_true)]
          cases lim with
          | none =>
            refine .inr (.inl (go S' F.w hs F.k rfl fun g => ?_))
            simp! only [repV]
          | some l =>
            simp only [fsW] at hw
            have hw' : (S' ++ [Ob.lst (pI i)])[I.w]? = _ := get_app hw
            by_cases c4 : l < w.st + cost i
            · refine .inr (.inr (.inr ⟨S', .ref S.length, S' ++ [Ob.lst (pI i)], ht, ?_, .inr rfl, ?_⟩))
              · simp! only [l1_follow, repV, hw, hco, c4]
              · rw [← hf, hfl, if_pos (show ovr (some l) (w.st + cost i) = true from decide_eq_true c4)]
                exact ⟨F.w.app, get_app hs, happ, F.o, F.g⟩
            · refine .inr (.inl (go (S' ++ [Ob.lst (pI i)]) F.w.app (get_app hs) happ (decide_eq_false c4) fun g => ?_))
              simp! only [repV, hw, hco, c4])
    φ (code.length * 256 + 1) [some (.ref I.w), some (repV lim), some (.ref S.length)] (S ++ [Ob.dt []]) (by omega) ⟨[], w0, rfl, ⟨h0.app, get_new, .app, .nil, g0⟩, by simp, by simp [ha0], by simp [hl0], rfl⟩
  refine ⟨S', ?_, h3⟩
  rcases h2 with rfl | rfl
  · simp! only [m_follow, b_follow, zWhile_e, h1]
  · simp! only [m_follow, b_follow, zWhile_e, h1]

/-! ### a new walk -/
def msetL (ks ms : List Int) : List Int := ms.foldl insK ks
theorem mem_insK {l : List Int} {k x : Int} : x ∈ insK l k ↔ x ∈ l ∨ x = k := by
  unfold insK
  split
  · rename_i h
    constructor
    · exact .inl
    · rintro (h2 | rfl)
      · exact h2
      · exact h
  · rw [List.mem_append, List.mem_singleton]
theorem mem_msetL {x : Int} : ∀ {ms ks : List Int}, x ∈ msetL ks ms ↔ x ∈ ks ∨ x ∈ ms
  | [], ks => by
    show x ∈ ks ↔ _
    constructor
    · exact .inl
    · rintro (h | h)
      · exact h
      · exact absurd h List.not_mem_nil
  | m :: ms, ks => by
    show x ∈ msetL (insK ks m) ms ↔ _
    rw [mem_msetL, mem_insK, List.mem_cons]
    constructor
    · rintro ((h | h) | h)
      · exact .inl h
      · exact .inr (.inl h)
      · exact .inr (.inr h)
    · rintro (h | h | h)
      · exact .inl (.inl h)
      · exact .inl (.inr h)
      · exact .inr h
theorem rqv_len {l : List Int} : (rqv l).length = l.length := by unfold rqv; rw [List.length_map]
theorem dc_loop {e0 e1 e2 e3 : Option Vl} {j D : Nat} {ms : List Int} (hm : ms.length < 90000) (hne : D ≠ j) : ∀ (n i : Nat) (S : Sto) (ks : List Int), S[D]? = some (.dk (rqv ks)) → S[j]? = some (.lst (ms.map .int)) → ms.length ≤ n + i → i ≤ ms.length → ks.length ≤ i →
    dcZ (itL j ms.length) (gmName 4) yYes (xVar 4) (xC (.bl true)) [e0, e1, e2, e3, none] D n i S = .ok () (S.set D (.dk (rqv (msetL ks (ms.drop i)))))
  | n, i, S, ks, hD, hj, hn, hi, hk => by
    rw [dcZ_eq, nxt_L hj, List.getElem?_map]
    cases hx : ms[i]? with
    | none =>
      have : ms.length ≤ i := by
        rcases Nat.lt_or_ge i ms.length with h | h
        · rw [List.getElem?_eq_getElem h] at hx; cases hx
        · exact h
      rw [List.drop_eq_nil_of_le this]
      show Out.ok () S = .ok () (S.set D (.dk (rqv ks)))
      congr 1
      exact (set_same hD).symm
    | some x =>
      have hlt : i < ms.length := (List.getElem?_eq_some_iff.mp hx).1
      have hdr : ms.drop i = x :: ms.drop (i + 1) := by
        rw [List.drop_eq_getElem_cons hlt]
        congr 1
        rw [List.getElem?_eq_getElem hlt] at hx
        exact Option.some.inj hx
      cases n with
      | zero => omega
      | succ n =>
        have ih := dc_loop (e0 := e0) (e1 := e1) (e2 := e2) (e3 := e3) hm hne n (i + 1) (S.set D (.dk (rqv (insK ks x)))) (insK ks x) (get_set hD) (by rw [get_set_ne hne]; exact hj) (by omega) (by omega) (by have := insK_len ks x; omega)
        have hl : (rqv ks).length < 100000 := by rw [rqv_len]; omega
        rw [List.set_set] at ih
        rw [hdr]
        simp! only [Option.map_some, yYes_e, hD, set_rqv, hl, ih, msetL, List.foldl_cons]
theorem dc_ints {e0 e1 e2 : Option Vl} {j : Nat} {ms : List Int} {S : Sto} (hm : ms.length < 90000) (hj : S[j]? = some (.lst (ms.map .int))) :
    xDc (iAny (xVar 3)) (gmName 4) yYes (xVar 4) (xC (.bl true)) [4] [e0, e1, e2, some (.ref j), none] S = .ok (.ref S.length) (S ++ [.dk (rqv (msetL [] ms))]) := by
  have hlt := get_lt hj
  have h := dc_loop (e0 := e0) (e1 := e1) (e2 := e2) (e3 := some (.ref j)) (D := S.length) hm (by omega) ms.length 0 (S ++ [.dk (rqv [])]) [] get_new (get_app hj) (by omega) (by omega) (Nat.le_refl _)
  rw [List.drop_zero, set_new] at h
  unfold xDc
  rw [iAny_e]
  simp! only [hj, List.length_map]
  show ((dcZ _ _ _ _ _ [e0, e1, e2, some (.ref j), none] _ _ _ (S ++ [.dk (rqv [])])).bind _) = _
  rw [h]; rfl
theorem init_w {φ : Nat} {S : Sto} {c j : Nat} {code : List In} {pos : Int} {ms : List Int} (hm : ms.length < 90000) (hc : S[c]? = some (.lst (code.map oI))) (hj : S[j]? = some (.lst (ms.map .int))) : ∃ S', m_Walk___init__ φ [.ref S.length, .ref c, .int pos, .ref j] (S ++ [.ins 33 []]) = .ok .non S' ∧ WAt S' ⟨c, S.length, S.length + 1, S.length + 2, S.length + 3, S.length + 4⟩ code pos (msetL [] ms) ⟨0, 0, 0, 0, 0, none, [], []⟩ ∧ Kp [] S S' := by
  have hlt := get_lt hc
  have hlj := get_lt hj
  have hj1 : (S ++ [Ob.ins 33 [(10, .ref c), (11, .int pos)]])[j]? = some (.lst (ms.map .int)) := get_app hj
  have hd := dc_ints (e0 := some (.ref S.length)) (e1 := some (.ref c)) (e2 := some (.int pos)) hm hj1
  refine ⟨S ++ [.ins 33 (fsW ⟨c, S.length, S.length + 1, S.length + 2, S.length + 3, S.length + 4⟩ pos ⟨0, 0, 0, 0, 0, none, [], []⟩), .dk (rqv (msetL [] ms)), .dk (vkv 0 0), .dk [], .lst []], ?_, ⟨get_at0, get_app hc, get_at, get_at, get_at, get_at, ⟨hlt, by dsimp only; omega, by dsimp only; omega, by dsimp only; omega, by dsimp only; omega⟩⟩, .app⟩
  simp only [List.length_append, List.length_cons, List.length_nil, Nat.zero_add, List.append_assoc, List.cons_append, List.nil_append] at hd
  simp! only [m_Walk___init__, b_Walk___init__, get_at0, set_at0, get_at, set_at, hd, List.length_append, List.append_assoc, fsW, repV, Nat.add_assoc, xDisp, pCons, pNil, keyed, mergeL]
  rfl

/-! ### the asked positions are few -/
theorem flw_inv {pos : Int} {kn : List Int} {code : List In} {lim : Option Int} (P : Wk → Prop) (h : ∀ w i, code[w.idx]? = some i → P w → P (stepW pos kn i w)) : ∀ (n : Nat) (seen : Seen) (w : Wk), P w → P (flw pos kn code lim n seen w).2
  | 0, seen, w, hw => hw
  | n + 1, seen, w, hw => by
    rw [flw]
    split
    · exact hw
    · rename_i i hi
      split
      · exact hw
      · split
        · exact hw
        · split
          · exact hw
          · exact flw_inv P h n _ _ (h w i hi hw)
def Nr (pos k : Int) : Prop := (0 ≤ k ∧ k ≤ 15) ∨ (0 ≤ k - pos ∧ k - pos ≤ 15) ∨ (0 ≤ pos - k ∧ pos - k ≤ 15)
structure AskOk (pos : Int) (L : Nat) (w : Wk) : Prop where
  g : GoodW L w
  nd : w.asked.Nodup
  nr : ∀ k, k ∈ w.asked → Nr pos k
theorem insK_nd {l : List Int} {k : Int} (h : l.Nodup) : (insK l k).Nodup := by
  unfold insK
  split
  · exact h
  · rename_i hn
    rw [List.nodup_append]
    refine ⟨h, by simp, fun a ha b hb => ?_⟩
    rw [List.mem_singleton.mp hb]
    rintro rfl
    exact hn ha
theorem tmv_ok {L : Nat} {w : Wk} {t : Tm} (g : GoodW L w) (h : okT t) : 0 ≤ tmv t w ∧ tmv t w ≤ 15 := by
  have := g.a
  have := g.b
  cases t with
  | v x =>
    unfold tmv Wk.var
    cases x
    · exact ⟨g.a.1, by show w.a ≤ 15; omega⟩
    · exact ⟨g.b.1, by show w.b ≤ 15; omega⟩
  | k n => exact h
theorem ask_step {pos : Int} {kn : List Int} {code : List In} (hC : ∀ i, i ∈ code → okI code.length i) (w : Wk) (i : In) (hi : code[w.idx]? = some i) (h : AskOk pos code.length w) : AskOk pos code.length (stepW pos kn i w) := by
  have hlt : w.idx < code.length := (List.getElem?_eq_some_iff.mp hi).1
  have hok := hC i (List.mem_of_getElem? hi)
  have hg := step_good (pos := pos) (kn := kn) h.g hlt hok
  refine ⟨hg, ?_, ?_⟩
  · cases i with
    | ask s t x =>
      show (if _ then _ else _ : List Int).Nodup
      split
      · exact insK_nd h.nd
      · exact h.nd
    | test c n =>
      show (if _ then _ else _ : Wk).asked.Nodup
      split <;> exact h.nd
    | _ => exact h.nd
  · cases i with
    | ask s t x =>
      have g1 : GoodW code.length { w with idx := w.idx + 1, st := w.st + cost (.ask s t x) } := ⟨hlt, h.g.a, h.g.b⟩
      have ht := tmv_ok g1 hok
      intro k hk
      have hk : k ∈ (if 0 ≤ plc s pos (tmv t { w with idx := w.idx + 1, st := w.st + cost (.ask s t x) }) then insK w.asked (plc s pos (tmv t { w with idx := w.idx + 1, st := w.st + cost (.ask s t x) })) else w.asked) := hk
      split at hk
      · rcases mem_insK.mp hk with hk | rfl
        · exact h.nr k hk
        · unfold Nr
          cases s <;> (simp only [plc]; omega)
      · exact h.nr k hk
    | test c n =>
      intro k hk
      have hk : k ∈ (if _ then _ else _ : Wk).asked := hk
      split at hk <;> exact h.nr k hk
    | _ => exact h.nr
def cdN (pos k : Int) : Nat := if 0 ≤ k ∧ k ≤ 15 then k.toNat else if 0 ≤ k - pos ∧ k - pos ≤ 15 then 16 + (k - pos).toNat else 32 + (pos - k).toNat
theorem ask_len {pos : Int} {L : Nat} {w : Wk} (h : AskOk pos L w) : w.asked.length ≤ 48 := by
  have h1 : (w.asked.map (cdN pos)).Nodup := by
    rw [List.nodup_iff_pairwise_ne, List.pairwise_map]
    refine List.Pairwise.imp_of_mem ?_ h.nd
    intro s t hs ht hne e
    have b1 := h.nr s hs
    have b2 := h.nr t ht
    unfold Nr at b1 b2
    unfold cdN at e
    apply hne
    split at e <;> split at e <;> (try split at e) <;> (try split at e) <;> omega
  have := pigeon 48 _ h1 (fun x hx => by
    obtain ⟨k, hk, rfl⟩ := List.mem_map.mp hx
    have b1 := h.nr k hk
    unfold Nr at b1
    unfold cdN
    split
    · omega
    · split <;> omega)
  rw [List.length_map] at this
  exact this
theorem keys_rqv : ∀ {l : List Int}, intKeys (rqv l) = some l
  | [] => rfl
  | k :: l => by
    show intKeys ((Sum.inl k, Vl.bl true) :: rqv l) = _
    simp only [intKeys, keys_rqv, Option.map_some]

/-! ### run -/
theorem flw_exit {pos : Int} {kn : List Int} {code : List In} {lim : Option Int} (hC : ∀ i, i ∈ code → okI code.length i) : ∀ (n : Nat) (seen : Seen) (w : Wk), n + seen.length = code.length * 256 + 1 → SeenOk code.length seen → GoodW code.length w →
    (flw pos kn code lim n seen w).2.rep.isSome = true ∨ (flw pos kn code lim n seen w).2.idx = code.length ∨ (lkS (flw pos kn code lim n seen w).1 (sOf (flw pos kn code lim n seen w).2)).isSome = true ∨ ∃ i, code[(flw pos kn code lim n seen w).2.idx]? = some i ∧ ovr lim ((flw pos kn code lim n seen w).2.st + cost i) = true
  | 0, seen, w, hn, hs, hg => by have := hs.len; omega
  | n + 1, seen, w, hn, hs, hg => by
    rw [flw]
    cases hi : code[w.idx]? with
    | none =>
      refine .inr (.inl ?_)
      have := hg.i
      rcases Nat.lt_or_ge w.idx code.length with h | h
      · rw [List.getElem?_eq_getElem h] at hi; cases hi
      · exact Nat.le_antisymm this h
    | some i =>
      dsimp only
      split
      · rename_i h; exact .inl h
      · split
        · rename_i h; exact .inr (.inr (.inl h))
        · rename_i hk
          split
          · rename_i h; exact .inr (.inr (.inr ⟨i, hi, h⟩))
          · have hlt : w.idx < code.length := (List.getElem?_eq_some_iff.mp hi).1
            have hk : lkS seen (sOf w) = none := by
              cases q : lkS seen (sOf w) with
              | none => rfl
              | some v => rw [q] at hk; exact absurd rfl hk
            exact flw_exit hC n _ _ (by rw [List.length_append]; show n + (seen.length + 1) = _; omega) (hs.snoc hk hg hlt) (step_good hg hlt (hC i (List.mem_of_getElem? hi)))
structure Rn where
  out : Str
  ans : Option Int
  len : Option Int
  fst : Option Int
  snd : Option Int
  ask : List Int
def rnOf (lim : Option Int) (L : Nat) (r : Seen × Wk) : Rn :=
  if r.2.rep.isSome = true then ⟨"answered", r.2.rep, some r.2.st, none, none, isort r.2.asked⟩
  else if r.2.idx = L then ⟨"ended", none, some r.2.st, none, none, isort r.2.asked⟩
  else if lim.isSome = true then ⟨"running", none, none, none, none, isort r.2.asked⟩
  else ⟨"silent", none, none, lkS r.1 (sOf r.2), some r.2.st, isort r.2.asked⟩
def w00 : Wk := ⟨0, 0, 0, 0, 0, none, [], []⟩
/-- the run of a teller -/
def runOf (pos : Int) (kn : List Int) (code : List In) (lim : Option Int) : Rn := rnOf lim code.length (flw pos kn code lim (code.length * 256 + 1) [] w00)
structure RunAt (S : Sto) (q a : Nat) (r : Rn) : Prop where
  h : S[q]? = some (.ins 44 [(17, .str r.out), (18, .ref a), (19, repV r.ans), (20, repV r.len), (21, repV r.fst), (22, repV r.snd)])
  l : S[a]? = some (.lst (r.ask.map .int))
  ne : a < q
theorem mkRun {φ : Nat} {S : Sto} {a : Nat} {o : Str} {x y z u : Vl} : m_Run___init__ φ [.ref S.length, .str o, .ref a, x, y, z, u] (S ++ [.ins 44 []]) = .ok .non (S ++ [.ins 44 [(17, .str o), (18, .ref a), (19, x), (20, y), (21, z), (22, u)]]) := by
  simp! only [m_Run___init__, b_Run___init__, get_at0, set_at0]
theorem isi_ii {l : Int} {S : Sto} : vIsi [.int l, .ty "int"] S = .ok (.bl true) S := rfl
theorem isi_ib {l : Int} {S : Sto} : vIsi [.int l, .ty "bool"] S = .ok (.bl false) S := rfl
theorem isInt_ok {φ : Nat} {S : Sto} {l : Int} : m_is_integer φ [.int l] S = .ok (.bl true) S := by
  simp! only [m_is_integer, b_is_integer, isi_ii, isi_ib]
theorem run_w {φ : Nat} {S : Sto} {bd : List Stm} {pos : Int} {j : Nat} {ms : List Int} {lim : Option Int} (hφ : 20000 < φ) (hb : okB false 4 bd) (hs : szB bd ≤ 24) (hm : ms.length < 90000) (hj : S[j]? = some (.lst (ms.map .int))) (hl : ∀ l, lim = some l → 0 ≤ l) :
    ∃ q a S', m_run φ [tv (dP false bd), .int pos, .ref j, repV lim] S = .ok (.ref q) S' ∧ RunAt S' q a (runOf pos (msetL [] ms) (cB 0 bd) lim) ∧ Kp [] S S' ∧ S.length ≤ a := by
  have hck : m_check_program φ [tv (dP false bd), .str "teller"] S = .ok .non S := check_ok hb hs
  have has := assemble_ok (φ := φ) (S := S) hb hs
  have hC : ∀ i, i ∈ cB 0 bd → okI (cB 0 bd).length i := fun i hi => (cB_ok hb i hi).mono (by omega)
  have hlen : (cB 0 bd).length ≤ 60 := by have := cB_len bd 0; omega
  obtain ⟨S2, h2, w2, k2⟩ := init_w (φ := φ) (S := S ++ [.lst ((cB 0 bd).map oI)]) (pos := pos) hm get_new (get_app hj)
  have g2 : GoodW (cB 0 bd).length w00 := ⟨Nat.zero_le _, ⟨Int.le_refl _, by decide⟩, ⟨Int.le_refl _, by decide⟩⟩
  obtain ⟨S3, h3, F⟩ := follow_w (φ := φ) (lim := lim) hφ hlen hC w2 g2 rfl rfl
  have hA : AskOk pos (cB 0 bd).length (flw pos (msetL [] ms) (cB 0 bd) lim ((cB 0 bd).length * 256 + 1) [] w00).2 := flw_inv (AskOk pos (cB 0 bd).length) (ask_step hC) _ _ _ ⟨g2, List.nodup_nil, fun k hk => absurd hk List.not_mem_nil⟩
  have hX := flw_exit (pos := pos) (kn := msetL [] ms) (lim := lim) hC ((cB 0 bd).length * 256 + 1) [] w00 (by simp) .nil g2
  unfold runOf
  change m_follow φ [.ref (S ++ [Ob.lst ((cB 0 bd).map oI)]).length, repV lim] S2 = _ at h3
  generalize hr : flw pos (msetL [] ms) (cB 0 bd) lim ((cB 0 bd).length * 256 + 1) [] w00 = r at hA hX
  have hr' : flw pos (msetL [] ms) (cB 0 bd) lim ((cB 0 bd).length * 256 + 1) [] ⟨0, 0, 0, 0, 0, none, [], []⟩ = r := hr
  rw [hr'] at F
  have hal := ask_len hA
  have hk3 : intKeys (rqv r.2.asked) = some r.2.asked := keys_rqv
  have hl3 : r.2.asked.length < 64 := by omega
  have hw3 := F.w.hw
  have hr3 := F.w.hr
  have ho4 := over_w (φ := φ) (F.w.app (T := [Ob.lst ((isort r.2.asked).map .int)]))
  have hst4 := state_w (φ := φ) (F.w.app (T := [Ob.lst ((isort r.2.asked).map .int)]))
  have hw4 := (F.w.app (T := [Ob.lst ((isort r.2.asked).map .int)])).hw
  have hs4 : (S3 ++ [Ob.lst ((isort r.2.asked).map .int)])[S2.length]? = some (.dt (svS r.1)) := get_app F.s
  have hgt : getK (svS r.1) [.inl (r.2.idx : Int), .inl r.2.a, .inl r.2.b] = (lkS r.1 (sOf r.2)).map Vl.int := get_svS (s := sOf r.2)
  simp only [fsW] at hw3 hr3 hw4
  have K3 : Kp [] S S3 := ((Kp.app (T := [Ob.lst ((cB 0 bd).map oI)])).trans k2).late F.k (fun i hi => by
    have : i ∈ [(S ++ [Ob.lst ((cB 0 bd).map oI)]).length, (S ++ [Ob.lst ((cB 0 bd).map oI)]).length + 2, (S ++ [Ob.lst ((cB 0 bd).map oI)]).length + 3, (S ++ [Ob.lst ((cB 0 bd).map oI)]).length + 4] := hi
    simp only [List.length_append, List.length_cons, List.length_nil, List.mem_cons, List.not_mem_nil, or_false] at this
    omega)
  have K4 : ∀ o : Ob, Kp [] S (S3 ++ [Ob.lst ((isort r.2.asked).map .int)] ++ [o]) := fun o => K3.trans (Kp.app.trans .app)
  have fin : ∀ (o : Ob), ((S3 ++ [Ob.lst ((isort r.2.asked).map .int)]) ++ [o])[S3.length]? = some (.lst ((isort r.2.asked).map .int)) := fun o => get_app get_new
  have ne : S3.length < (S3 ++ [Ob.lst ((isort r.2.asked).map .int)]).length := by rw [List.length_append]; show _ < _ + 1; omega
  have hge : S.length ≤ S3.length := K3.len
  have fin2 : ∀ (x y z u : Option Int) (ou : Str), RunAt (S3 ++ [Ob.lst ((isort r.2.asked).map .int)] ++ [Ob.ins 44 [(17, .str ou), (18, .ref S3.length), (19, repV x), (20, repV y), (21, repV z), (22, repV u)]]) (S3 ++ [Ob.lst ((isort r.2.asked).map .int)]).length S3.length ⟨ou, x, y, z, u, isort r.2.asked⟩ := fun x y z u ou => ⟨get_new, fin _, ne⟩
  dsimp only at ho4 hst4
  unfold rnOf
  cases hrep : r.2.rep with
  | some n =>
    rw [if_pos (by rfl)]
    refine ⟨_, _, _, ?_, fin2 (some n) (some r.2.st) none none "answered", K4 _, hge⟩
    cases lim with
    | none =>
      simp only [repV] at h3
      simp! only [m_run, b_run, hck, has, h2, h3, vSorted, hw3, hr3, hk3, hl3, hw4, ho4, mkRun, hst4, hs4, aD3, hgt, repV, isInt_ok, hrep]
    | some l =>
      simp only [repV] at h3
      have hl0 : ¬ l < 0 := by have := hl l rfl; omega
      simp! only [m_run, b_run, hck, has, h2, h3, vSorted, hw3, hr3, hk3, hl3, hw4, ho4, mkRun, hst4, hs4, aD3, hgt, repV, isInt_ok, hrep, hl0]
  | none =>
    rw [if_neg (by exact Bool.false_ne_true)]
    rw [hrep] at ho4
    by_cases hi : r.2.idx = (cB 0 bd).length
    · rw [if_pos hi]
      rw [decide_eq_true hi] at ho4
      refine ⟨_, _, _, ?_, fin2 none (some r.2.st) none none "ended", K4 _, hge⟩
      cases lim with
      | none =>
        simp only [repV] at h3
        simp! only [m_run, b_run, hck, has, h2, h3, vSorted, hw3, hr3, hk3, hl3, hw4, ho4, mkRun, hst4, hs4, aD3, hgt, repV, isInt_ok, hrep]
      | some l =>
        simp only [repV] at h3
        have hl0 : ¬ l < 0 := by have := hl l rfl; omega
        simp! only [m_run, b_run, hck, has, h2, h3, vSorted, hw3, hr3, hk3, hl3, hw4, ho4, mkRun, hst4, hs4, aD3, hgt, repV, isInt_ok, hrep, hl0]
    · rw [if_neg hi]
      rw [decide_eq_false hi] at ho4
      cases lim with
      | none =>
        rw [if_neg (by exact Bool.false_ne_true)]
        rcases hX with h | h | h | ⟨i, _, h⟩
        · rw [hrep] at h; cases h
        · exact absurd h hi
        · cases hlk : lkS r.1 (sOf r.2) with
          | none => rw [hlk] at h; cases h
          | some v =>
            rw [hlk] at hgt
            simp only [repV] at h3
            refine ⟨_, _, _, ?_, fin2 none none (some v) (some r.2.st) "silent", K4 _, hge⟩
            simp! only [m_run, b_run, hck, has, h2, h3, vSorted, hw3, hr3, hk3, hl3, hw4, ho4, mkRun, hst4, hs4, aD3, hgt, repV, isInt_ok, hrep, Option.map_some]
        · cases h
      | some l =>
        simp only [repV] at h3
        have hl0 : ¬ l < 0 := by have := hl l rfl; omega
        rw [if_pos (by rfl)]
        refine ⟨_, _, _, ?_, fin2 none none none none "running", K4 _, hge⟩
        simp! only [m_run, b_run, hck, has, h2, h3, vSorted, hw3, hr3, hk3, hl3, hw4, ho4, mkRun, hst4, hs4, aD3, hgt, repV, isInt_ok, hrep, hl0]
/-- a run as the laws tell it -/
def lrV (l : Nat) (r : Rn) : Vl := .tup [.str r.out, repV r.ans, repV r.len, repV r.fst, repV r.snd, .ref l]

/-! ### comprehensions over a list, one value each -/
theorem lc_loop {j D k : Nat} {xs : List Vl} {env : En} {e : XE'} {f : Vl → Vl} (he : ∀ S' x, x ∈ xs → e (env.set k (some x)) S' = .ok (f x) S') (hne : D ≠ j) (hl : xs.length < 90000) : ∀ (n i : Nat) (S : Sto), S[D]? = some (.lst ((xs.take i).map f)) → S[j]? = some (.lst xs) → xs.length ≤ n + i → i ≤ xs.length →
    compZ (itL j xs.length) (gmName k) yYes e env D n i S = .ok () (S.set D (.lst (xs.map f)))
  | n, i, S, hD, hj, hn, hi => by
    rw [compZ_eq, nxt_L hj]
    cases hx : xs[i]? with
    | none =>
      have : xs.length ≤ i := by
        rcases Nat.lt_or_ge i xs.length with h | h
        · rw [List.getElem?_eq_getElem h] at hx; cases hx
        · exact h
      rw [List.take_of_length_le this] at hD
      show Out.ok () S = _
      rw [set_same hD]
    | some x =>
      have hlt : i < xs.length := (List.getElem?_eq_some_iff.mp hx).1
      cases n with
      | zero => omega
      | succ n =>
        have htk : xs.take (i + 1) = xs.take i ++ [x] := by rw [List.take_add_one, hx]; rfl
        have ih := lc_loop he hne hl n (i + 1) (S.set D (.lst ((xs.take i).map f ++ [f x]))) (by rw [get_set hD, htk, List.map_append]; rfl) (by rw [get_set_ne hne]; exact hj) (by omega) (by omega)
        rw [List.set_set] at ih
        have h1 := he S x (List.mem_of_getElem? hx)
        have h2 : ((xs.take i).map f).length < 100000 := by rw [List.length_map, List.length_take]; omega
        simp! only [yYes_e, h1, hD, h2, ih]
theorem lc_list {j k : Nat} {xs : List Vl} {env env' : En} {vs : List Nat} {e : XE'} {f : Vl → Vl} {it : En → Sto → Out Itm} {S : Sto} (hit : it env S = .ok (itL j xs.length) S) (hw : wipeE env vs = env') (hj : S[j]? = some (.lst xs)) (he : ∀ S' x, x ∈ xs → e (env'.set k (some x)) S' = .ok (f x) S') (hl : xs.length < 90000) : xLc it (gmName k) yYes e vs env S = .ok (.ref S.length) (S ++ [.lst (xs.map f)]) := by
  have hlt := get_lt hj
  have h := lc_loop (D := S.length) he (by omega) hl xs.length 0 (S ++ [.lst []]) get_new (get_app hj) (by omega) (by omega)
  rw [set_new] at h
  unfold xLc
  rw [hit, Out.bind_ok, hw]
  show ((compZ _ _ _ _ _ _ xs.length _ _).bind _) = _
  rw [h]; rfl
theorem whole_ok {φ : Nat} {S : Sto} {l : Int} : m__law_whole φ [.int l] S = .ok (.bl true) S := by
  simp! only [m__law_whole, b__law_whole, isi_ii, isi_ib]

/-! ### a run told by the law -/
theorem bools_true {α : Type} : ∀ {xs : List α}, toBools (xs.map fun _ => Vl.bl true) = some (xs.map fun _ => true)
  | [] => rfl
  | x :: xs => by
    show (toBools (xs.map fun _ => Vl.bl true)).map (true :: ·) = _
    rw [bools_true]; rfl
theorem all_true {α : Type} : ∀ {xs : List α}, (xs.map fun _ => true).all id = true
  | [] => rfl
  | x :: xs => by rw [List.map_cons, List.all_cons, all_true]; rfl
theorem vAll_true {α : Type} {S : Sto} {xs : List α} : vAll [.ref S.length] (S ++ [.lst (xs.map fun _ => Vl.bl true)]) = .ok (.bl true) (S ++ [.lst (xs.map fun _ => Vl.bl true)]) := by
  unfold vAll
  dsimp only
  rw [get_new]
  dsimp only
  rw [bools_true]
  dsimp only
  rw [all_true]
theorem isi_list {S : Sto} {a : Nat} {xs : List Vl} (h : S[a]? = some (.lst xs)) : vIsi [.ref a, .ty "list"] S = .ok (.bl true) S := by
  unfold vIsi tyV'
  dsimp only
  rw [h]; rfl
theorem isi_str {S : Sto} {z : Str} : vIsi [.str z, .ty "str"] S = .ok (.bl true) S := rfl
theorem told_ok {φ : Nat} {S : Sto} {q a : Nat} {r : Rn} (h : RunAt S q a r) (hl : r.ask.length < 90000) : ∃ S' l, m__law_told φ [.ref q] S = .ok (lrV l r) S' ∧ S'[l]? = some (.lst (r.ask.map .int)) ∧ Kp [] S S' := by
  have hq := h.h
  have ha := h.l
  have hn1 := get_new (S := S) (o := Ob.lst [repV r.ans, repV r.len, repV r.fst, repV r.snd])
  have l1 := lc_list (it := iAny (xVar 1)) (k := 2) (env := [some (.ref q), some (.ref S.length), none, none]) (env' := [some (.ref q), some (.ref S.length), none, none]) (vs := [2]) (e := xOr (xOp vIs (xVar 2) (xC .non)) (xCall 1 1 (fun xs _ => xs) 0 (m__law_whole φ) (bArgs (aCons (xVar 2) aNil) aNil))) (f := fun _ => .bl true) (S := S ++ [Ob.lst [repV r.ans, repV r.len, repV r.fst, repV r.snd]]) (by simp! only [hn1]) rfl hn1 (fun S' x hx => by
    have : ∃ o, x = repV o := by
      simp only [List.mem_cons, List.not_mem_nil, or_false] at hx
      rcases hx with rfl | rfl | rfl | rfl <;> exact ⟨_, rfl⟩
    obtain ⟨o, rfl⟩ := this
    cases o with
    | none => simp! only [repV]
    | some n => simp! only [repV, whole_ok]) (by simp)
  have v1 := vAll_true (S := S ++ [Ob.lst [repV r.ans, repV r.len, repV r.fst, repV r.snd]]) (xs := [repV r.ans, repV r.len, repV r.fst, repV r.snd])
  generalize hT : S ++ [Ob.lst [repV r.ans, repV r.len, repV r.fst, repV r.snd]] ++ [Ob.lst ([repV r.ans, repV r.len, repV r.fst, repV r.snd].map fun _ => Vl.bl true)] = T at l1 v1
  have hq2 := get_app (T := [Ob.lst ([repV r.ans, repV r.len, repV r.fst, repV r.snd].map fun _ => Vl.bl true)]) (get_app (T := [Ob.lst [repV r.ans, repV r.len, repV r.fst, repV r.snd]]) hq)
  have ha2 := get_app (T := [Ob.lst ([repV r.ans, repV r.len, repV r.fst, repV r.snd].map fun _ => Vl.bl true)]) (get_app (T := [Ob.lst [repV r.ans, repV r.len, repV r.fst, repV r.snd]]) ha)
  rw [hT] at hq2 ha2
  have i2 := isi_list ha2
  have l2 := lc_list (it := iAny (xFld 18 [44] (xVar 0))) (k := 3) (env := [some (.ref q), some (.ref S.length), none, none]) (env' := [some (.ref q), some (.ref S.length), none, none]) (vs := [3]) (e := xCall 1 1 (fun xs _ => xs) 0 (m__law_whole φ) (bArgs (aCons (xVar 3) aNil) aNil)) (f := fun _ => .bl true) (S := T) (by simp! only [hq2, ha2]) rfl ha2 (fun S' x hx => by
    obtain ⟨n, _, rfl⟩ := List.mem_map.mp hx
    simp! only [whole_ok]) (by rw [List.length_map]; exact hl)
  have v2 := vAll_true (S := T) (xs := r.ask.map Vl.int)
  have hq3 : (T ++ [Ob.lst ((r.ask.map Vl.int).map fun _ => Vl.bl true)])[q]? = _ := get_app hq2
  have ha3 : (T ++ [Ob.lst ((r.ask.map Vl.int).map fun _ => Vl.bl true)])[a]? = _ := get_app ha2
  have kT : Kp [] S T := by rw [← hT]; exact Kp.app.trans .app
  refine ⟨T ++ [Ob.lst ((r.ask.map Vl.int).map fun _ => Vl.bl true)] ++ [Ob.lst (r.ask.map .int)], _, ?_, get_new, kT.trans (Kp.app.trans .app)⟩
  simp! only [m__law_told, b__law_told, hq, l1, v1, hq2, i2, isi_str, l2, v2, hq3, ha3, lrV]

/-! ### k09: the law -/
def rD (r : Rn) : PyData := .tuple [.str r.out, oD r.ans, oD r.len, oD r.fst, oD r.snd, .list (r.ask.map .int)]
where oD : Option Int → PyData
  | none => .none
  | some n => .int n
theorem allD_ints {S : Sto} {n : Nat} : ∀ {l : List Int}, allD (toD (n + 1) S) (l.map Vl.int) = some (l.map PyData.int)
  | [] => rfl
  | k :: l => by rw [List.map_cons, allD, allD_ints]; rfl
theorem toD_rep {S : Sto} {n : Nat} {o : Option Int} : toD (n + 1) S (repV o) = some (rD.oD o) := by cases o <;> rfl
theorem toD_lr {S : Sto} {l : Nat} {r : Rn} (h : S[l]? = some (.lst (r.ask.map .int))) : toD 60 S (lrV l r) = some (rD r) := by
  have h1 : toD 59 S (.ref l) = some (.list (r.ask.map .int)) := by
    show (match S[l]? with
      | some (.lst xs) => (allD (toD 58 S) xs).map PyData.list
      | _ => none) = _
    rw [h]
    dsimp only
    rw [allD_ints]; rfl
  show (allD (toD 59 S) [.str r.out, repV r.ans, repV r.len, repV r.fst, repV r.snd, .ref l]).map PyData.tuple = _
  simp only [allD, toD_rep, h1]
  rfl
theorem rD_plain (r : Rn) : (rD r).plain = true := by
  have h1 : ∀ o : Option Int, (rD.oD o).plain = true := by intro o; cases o <;> rfl
  have h2 : ∀ l : List Int, PyData.plainAll (l.map PyData.int) = true := by
    intro l
    induction l with
    | nil => rfl
    | cons k l ih => rw [List.map_cons, PyData.plainAll, ih]; rfl
  unfold rD
  simp only [PyData.plain, PyData.plainAll, h1, h2, Bool.and_self]
theorem ne_lr {S : Sto} {l1 l2 : Nat} {r : Rn} (h1 : S[l1]? = some (.lst (r.ask.map .int))) (h2 : S[l2]? = some (.lst (r.ask.map .int))) : vNe (lrV l1 r) (lrV l2 r) S = .ok (.bl false) S := by
  unfold vNe
  rw [toD_lr h1, toD_lr h2]
  dsimp only
  rw [PySem.SeqAt.eqv_refl_plain _ (rD_plain r)]; rfl

/-! ### runs that agree on what they ask -/
theorem mem_insK' {l : List Int} {k p : Int} (h : p ∈ l) : p ∈ insK l k := mem_insK.mpr (.inl h)
theorem step_mem {pos : Int} {kn : List Int} {i : In} {w : Wk} {p : Int} (h : p ∈ w.asked) : p ∈ (stepW pos kn i w).asked := by
  cases i with
  | ask s t x =>
    show p ∈ (if _ then _ else _ : List Int)
    split
    · exact mem_insK' h
    · exact h
  | test c n =>
    show p ∈ (if _ then _ else _ : Wk).asked
    split <;> exact h
  | _ => exact h
theorem flw_asked {pos : Int} {kn : List Int} {code : List In} {lim : Option Int} {n : Nat} {seen : Seen} {w : Wk} {p : Int} (h : p ∈ w.asked) : p ∈ (flw pos kn code lim n seen w).2.asked := flw_inv (fun w => p ∈ w.asked) (fun _ _ _ h => step_mem h) n seen w h
theorem step_agree {pos : Int} {kn kn' : List Int} {i : In} {w : Wk} (h : ∀ p, p ∈ (stepW pos kn i w).asked → p ∈ (stepW pos kn' i w).asked → (p ∈ kn ↔ p ∈ kn')) : stepW pos kn i w = stepW pos kn' i w := by
  cases i with
  | ask s t x =>
    unfold stepW act
    dsimp only
    generalize hv : plc s pos (tmv t { w with idx := w.idx + 1, st := w.st + cost (.ask s t x) }) = v
    by_cases h0 : 0 ≤ v
    · have e1 : ∀ kn, (stepW pos kn (.ask s t x) w).asked = insK w.asked v := by
        intro kn
        show (if 0 ≤ plc s pos (tmv t { w with idx := w.idx + 1, st := w.st + cost (.ask s t x) }) then insK w.asked (plc s pos (tmv t { w with idx := w.idx + 1, st := w.st + cost (.ask s t x) })) else w.asked) = _
        rw [hv, if_pos h0]
      have := h v (by rw [e1]; exact mem_insK.mpr (.inr rfl)) (by rw [e1]; exact mem_insK.mpr (.inr rfl))
      have e2 : (0 ≤ v ∧ v ∈ kn) = (0 ≤ v ∧ v ∈ kn') := propext ⟨fun z => ⟨z.1, this.mp z.2⟩, fun z => ⟨z.1, this.mpr z.2⟩⟩
      simp only [this]
    · have e3 : ¬ (0 ≤ v ∧ v ∈ kn) := fun z => h0 z.1
      have e4 : ¬ (0 ≤ v ∧ v ∈ kn') := fun z => h0 z.1
      rw [if_neg e3, if_neg e4]
  | _ => rfl
theorem flw_agree {pos : Int} {kn kn' : List Int} {code : List In} {lim : Option Int} : ∀ (n : Nat) (seen : Seen) (w : Wk), (∀ p, p ∈ (flw pos kn code lim n seen w).2.asked → p ∈ (flw pos kn' code lim n seen w).2.asked → (p ∈ kn ↔ p ∈ kn')) → flw pos kn code lim n seen w = flw pos kn' code lim n seen w
  | 0, seen, w, h => rfl
  | n + 1, seen, w, h => by
    rw [flw, flw] at h ⊢
    cases hc : code[w.idx]? with
    | none => rfl
    | some i =>
      rw [hc] at h
      dsimp only at h ⊢
      by_cases h1 : w.rep.isSome = true
      · rw [if_pos h1, if_pos h1]
      · rw [if_neg h1, if_neg h1] at h ⊢
        by_cases h2 : (lkS seen (sOf w)).isSome = true
        · rw [if_pos h2, if_pos h2]
        · rw [if_neg h2, if_neg h2] at h ⊢
          by_cases h3 : ovr lim (w.st + cost i) = true
          · rw [if_pos h3, if_pos h3]
          · rw [if_neg h3, if_neg h3] at h ⊢
            have e := step_agree (pos := pos) (kn := kn) (kn' := kn') (i := i) (w := w) (fun p h1 h2 => h p (flw_asked h1) (flw_asked h2))
            rw [← e] at h ⊢
            exact flw_agree n _ _ h
theorem run_asked {pos : Int} {kn : List Int} {code : List In} {lim : Option Int} : (runOf pos kn code lim).ask = isort (flw pos kn code lim (code.length * 256 + 1) [] w00).2.asked := by
  unfold runOf rnOf
  split
  · rfl
  · split
    · rfl
    · split <;> rfl
theorem mem_run {pos : Int} {kn : List Int} {code : List In} {lim : Option Int} {p : Int} : p ∈ (runOf pos kn code lim).ask ↔ p ∈ (flw pos kn code lim (code.length * 256 + 1) [] w00).2.asked := by
  rw [run_asked]
  exact (isort_perm _).mem_iff
theorem run_agree {pos : Int} {kn kn' : List Int} {code : List In} {lim : Option Int} (h : ∀ p, p ∈ (runOf pos kn code lim).ask → p ∈ (runOf pos kn' code lim).ask → (p ∈ kn ↔ p ∈ kn')) : runOf pos kn code lim = runOf pos kn' code lim := by
  unfold runOf
  rw [flw_agree _ _ _ fun p h1 h2 => h p (mem_run.mpr h1) (mem_run.mpr h2)]
theorem run_ask {pos : Int} {kn : List Int} {code : List In} {lim : Option Int} (hC : ∀ i, i ∈ code → okI code.length i) : (runOf pos kn code lim).ask.length ≤ 48 := by
  have g2 : GoodW code.length w00 := ⟨Nat.zero_le _, ⟨Int.le_refl _, by decide⟩, ⟨Int.le_refl _, by decide⟩⟩
  have hA : AskOk pos code.length (flw pos kn code lim (code.length * 256 + 1) [] w00).2 := flw_inv (AskOk pos code.length) (ask_step hC) _ _ _ ⟨g2, List.nodup_nil, fun k hk => absurd hk List.not_mem_nil⟩
  rw [run_asked, (isort_perm _).length_eq]
  exact ask_len hA

/-! ### runs within a limit -/
theorem step_st {pos : Int} {kn : List Int} {i : In} {w : Wk} : (stepW pos kn i w).st = w.st + cost i := by
  cases i with
  | test c n =>
    show (if _ then _ else _ : Wk).st = _
    split <;> rfl
  | _ => rfl
theorem cost_pos {L : Nat} {i : In} (h : okI L i) : 1 ≤ cost i := by
  cases i with
  | wait n => exact h
  | _ => exact Int.le_refl _
def limLe : Option Int → Option Int → Prop
  | _, none => True
  | some a, some b => a ≤ b
  | none, some _ => False
theorem ovr_mono {l l' : Option Int} {x : Int} (h : limLe l l') (ho : ¬ ovr l x = true) : ¬ ovr l' x = true := by
  cases l' with
  | none => exact Bool.false_ne_true
  | some b =>
    cases l with
    | none => exact h.elim
    | some a =>
      have h : a ≤ b := h
      unfold ovr at ho ⊢
      intro z
      have z := of_decide_eq_true z
      exact ho (decide_eq_true (by omega))
section
variable {pos : Int} {kn : List Int} {code : List In}
theorem flw_mono {l l' : Option Int} (h : limLe l l') {p : Int} : ∀ (n : Nat) (seen : Seen) (w : Wk), p ∈ (flw pos kn code l n seen w).2.asked → p ∈ (flw pos kn code l' n seen w).2.asked
  | 0, seen, w, hp => hp
  | n + 1, seen, w, hp => by
    rw [flw] at hp ⊢
    cases hc : code[w.idx]? with
    | none => rw [hc] at hp; exact hp
    | some i =>
      rw [hc] at hp
      dsimp only at hp ⊢
      by_cases h1 : w.rep.isSome = true
      · rw [if_pos h1] at hp ⊢; exact hp
      · rw [if_neg h1] at hp ⊢
        by_cases h2 : (lkS seen (sOf w)).isSome = true
        · rw [if_pos h2] at hp ⊢; exact hp
        · rw [if_neg h2] at hp ⊢
          by_cases h3 : ovr l (w.st + cost i) = true
          · rw [if_pos h3] at hp
            split
            · exact hp
            · exact flw_asked (step_mem hp)
          · rw [if_neg h3] at hp
            rw [if_neg (ovr_mono h h3)]
            exact flw_mono h n _ _ hp
theorem flw_st {l : Option Int} (hC : ∀ i, i ∈ code → okI code.length i) : ∀ (n : Nat) (seen : Seen) (w : Wk), w.st ≤ (flw pos kn code l n seen w).2.st
  | 0, seen, w => Int.le_refl _
  | n + 1, seen, w => by
    rw [flw]
    cases hc : code[w.idx]? with
    | none => exact Int.le_refl _
    | some i =>
      dsimp only
      split
      · exact Int.le_refl _
      · split
        · exact Int.le_refl _
        · split
          · exact Int.le_refl _
          · have h1 := flw_st (l := l) hC n (seen ++ [(sOf w, w.st)]) (stepW pos kn i w)
            have h2 := cost_pos (hC i (List.mem_of_getElem? hc))
            rw [step_st] at h1
            omega
theorem flw_le {l : Int} : ∀ (n : Nat) (seen : Seen) (w : Wk), w.st ≤ l → (flw pos kn code (some l) n seen w).2.st ≤ l
  | 0, seen, w, h => h
  | n + 1, seen, w, h => by
    rw [flw]
    cases hc : code[w.idx]? with
    | none => exact h
    | some i =>
      dsimp only
      split
      · exact h
      · split
        · exact h
        · split
          · exact h
          · rename_i h3
            refine flw_le n _ _ ?_
            rw [step_st]
            unfold ovr at h3
            have h3 := mt (fun z => decide_eq_true z) h3
            omega
theorem flw_lim {l : Int} (hC : ∀ i, i ∈ code → okI code.length i) : ∀ (n : Nat) (seen : Seen) (w : Wk), flw pos kn code (some l) n seen w = flw pos kn code none n seen w ∨
    ∃ i, code[(flw pos kn code (some l) n seen w).2.idx]? = some i ∧ (flw pos kn code (some l) n seen w).2.rep = none ∧ l < (flw pos kn code none n seen w).2.st
  | 0, seen, w => .inl rfl
  | n + 1, seen, w => by
    rw [flw, flw]
    cases hc : code[w.idx]? with
    | none => exact .inl rfl
    | some i =>
      dsimp only
      by_cases h1 : w.rep.isSome = true
      · rw [if_pos h1, if_pos h1]; exact .inl rfl
      · rw [if_neg h1, if_neg h1]
        by_cases h2 : (lkS seen (sOf w)).isSome = true
        · rw [if_pos h2, if_pos h2]; exact .inl rfl
        · rw [if_neg h2, if_neg h2]
          have h4 : ¬ ovr none (w.st + cost i) = true := Bool.false_ne_true
          rw [if_neg h4]
          by_cases h3 : ovr (some l) (w.st + cost i) = true
          · rw [if_pos h3]
            refine .inr ⟨i, hc, ?_, ?_⟩
            · cases hr : w.rep with
              | none => rfl
              | some v => rw [hr] at h1; exact absurd rfl h1
            · have h5 := flw_st (pos := pos) (kn := kn) (l := none) hC n (seen ++ [(sOf w, w.st)]) (stepW pos kn i w)
              rw [step_st] at h5
              have h3 := of_decide_eq_true h3
              omega
          · rw [if_neg h3]
            exact flw_lim hC n _ _
end
/-- a run that is still going on -/
def rnRun (a : List Int) : Rn := ⟨"running", none, none, none, none, a⟩
section
variable {pos : Int} {kn : List Int} {code : List In}
theorem run_within {l L : Int} (hC : ∀ i, i ∈ code → okI code.length i) (h : (runOf pos kn code none).len = some L) (hl : L ≤ l) : runOf pos kn code (some l) = runOf pos kn code none := by
  unfold runOf at h ⊢
  rcases flw_lim (pos := pos) (kn := kn) (l := l) hC (code.length * 256 + 1) [] w00 with e | ⟨i, h1, h2, h3⟩
  · rw [e]
    generalize flw pos kn code none (code.length * 256 + 1) [] w00 = r at h
    unfold rnOf at h ⊢
    by_cases c1 : r.2.rep.isSome = true
    · rw [if_pos c1, if_pos c1]
    · rw [if_neg c1] at h ⊢
      rw [if_neg c1]
      by_cases c2 : r.2.idx = code.length
      · rw [if_pos c2, if_pos c2]
      · rw [if_neg c2, if_neg (by exact Bool.false_ne_true)] at h
        cases h
  · exfalso
    generalize flw pos kn code none (code.length * 256 + 1) [] w00 = r at h h3
    unfold rnOf at h
    by_cases c1 : r.2.rep.isSome = true
    · rw [if_pos c1] at h
      injection h with h
      omega
    · rw [if_neg c1] at h
      by_cases c2 : r.2.idx = code.length
      · rw [if_pos c2] at h
        injection h with h
        omega
      · rw [if_neg c2, if_neg (by exact Bool.false_ne_true)] at h
        cases h
theorem run_beyond {l : Int} (hC : ∀ i, i ∈ code → okI code.length i) (h0 : 0 ≤ l) (h : ∀ L, (runOf pos kn code none).len = some L → ¬ L ≤ l) : runOf pos kn code (some l) = rnRun (runOf pos kn code (some l)).ask := by
  have hb := flw_le (pos := pos) (kn := kn) (code := code) (l := l) (code.length * 256 + 1) [] w00 h0
  have key : ¬ (flw pos kn code (some l) (code.length * 256 + 1) [] w00).2.rep.isSome = true ∧ (flw pos kn code (some l) (code.length * 256 + 1) [] w00).2.idx ≠ code.length := by
    unfold runOf at h
    rcases flw_lim (pos := pos) (kn := kn) (l := l) hC (code.length * 256 + 1) [] w00 with e | ⟨i, h1, h2, h3⟩
    · rw [e] at hb ⊢
      generalize flw pos kn code none (code.length * 256 + 1) [] w00 = r at h hb
      unfold rnOf at h
      by_cases c1 : r.2.rep.isSome = true
      · rw [if_pos c1] at h
        exact absurd hb (h _ rfl)
      · rw [if_neg c1] at h
        by_cases c2 : r.2.idx = code.length
        · rw [if_pos c2] at h
          exact absurd hb (h _ rfl)
        · exact ⟨c1, c2⟩
    · refine ⟨by rw [h2]; exact Bool.false_ne_true, fun e => ?_⟩
      rw [e, List.getElem?_eq_none (Nat.le_refl _)] at h1
      cases h1
  rw [run_asked]
  unfold runOf rnOf
  rw [if_neg key.1, if_neg key.2, if_pos (by rfl)]
  rfl
/-- the length of a run, or where it repeats a state -/
def Rn.near (r : Rn) : Option Int := match r.len with
  | some L => some L
  | none => r.snd
theorem run_near : ∃ N, (runOf pos kn code none).near = some N ∧ N = (flw pos kn code none (code.length * 256 + 1) [] w00).2.st := by
  unfold runOf
  generalize flw pos kn code none (code.length * 256 + 1) [] w00 = r
  unfold rnOf
  by_cases c1 : r.2.rep.isSome = true
  · rw [if_pos c1]; exact ⟨_, rfl, rfl⟩
  · rw [if_neg c1]
    by_cases c2 : r.2.idx = code.length
    · rw [if_pos c2]; exact ⟨_, rfl, rfl⟩
    · rw [if_neg c2, if_neg (by exact Bool.false_ne_true)]; exact ⟨_, rfl, rfl⟩
theorem run_all {l N : Int} (hC : ∀ i, i ∈ code → okI code.length i) (hN : (runOf pos kn code none).near = some N) (hl : N ≤ l) : (runOf pos kn code (some l)).ask = (runOf pos kn code none).ask := by
  obtain ⟨M, h1, h2⟩ := run_near (pos := pos) (kn := kn) (code := code)
  rw [h1] at hN
  cases hN
  rw [run_asked, run_asked]
  rcases flw_lim (pos := pos) (kn := kn) (l := l) hC (code.length * 256 + 1) [] w00 with e | ⟨i, _, _, h3⟩
  · rw [e]
  · omega
theorem run_grow {l l' : Option Int} (h : limLe l l') {p : Int} (hp : p ∈ (runOf pos kn code l).ask) : p ∈ (runOf pos kn code l').ask := mem_run.mpr (flw_mono h _ _ _ (mem_run.mp hp))
end

/-! ### straight programs -/
theorem cB_app : ∀ (a b : List Stm) (n : Nat), cB n (a ++ b) = cB n a ++ cB (n + (cB n a).length) b
  | [], b, n => by rw [List.nil_append, cB]; rfl
  | s :: a, b, n => by
    rw [List.cons_append, cB, cB, cB_app a b, List.append_assoc, List.length_append, Nat.add_assoc]
inductive It where
  | a (n : Int) | b (n : Int) | w (n : Int)
def iS : It → Stm
  | .a n => .ite ⟨false, .eq, .k 0⟩ [.wait n] []
  | .b n => .ite ⟨true, .lt, .k 0⟩ [.wait 1000000000000000000000000000000] [.wait n]
  | .w n => .wait n
def iN : It → Int
  | .a n => n
  | .b n => n
  | .w n => n
def iC : It → Int
  | .a n => n + 1
  | .b n => n + 1
  | .w n => n
def wk (n : Nat) (st : Int) : Wk := ⟨n, st, 0, 0, 0, none, [], []⟩
def SLt (n : Nat) (seen : Seen) : Prop := ∀ p, p ∈ seen → p.1.1 < n
theorem SLt.snoc {n m : Nat} {seen : Seen} {s : S3} {v : Int} (h : SLt n seen) (hs : s.1 < m) (hm : n ≤ m) : SLt m (seen ++ [(s, v)]) := by
  intro p hp
  rcases List.mem_append.mp hp with hp | hp
  · exact Nat.lt_of_lt_of_le (h p hp) hm
  · rw [List.mem_singleton.mp hp]; exact hs
theorem lk_lt {n : Nat} {seen : Seen} {s : S3} (h : SLt n seen) (hs : n ≤ s.1) : lkS seen s = none := by
  unfold lkS
  rw [Option.map_eq_none_iff, List.find?_eq_none]
  intro p hp e
  have h1 := h p hp
  have h2 := of_decide_eq_true e
  rw [h2] at h1
  omega
section
variable {pos : Int} {kn : List Int} {code : List In}
theorem step_on {n f : Nat} {st : Int} {seen : Seen} {i : In} (hc : code[n]? = some i) (h : SLt n seen) : flw pos kn code none (f + 1) seen (wk n st) = flw pos kn code none f (seen ++ [((n, 0, 0), st)]) (stepW pos kn i (wk n st)) := by
  have hl : lkS seen (sOf (wk n st)) = none := lk_lt h (Nat.le_refl _)
  have hr : ¬ (wk n st).rep.isSome = true := Bool.false_ne_true
  have ho : ¬ ovr none ((wk n st).st + cost i) = true := Bool.false_ne_true
  have hc' : code[(wk n st).idx]? = some i := hc
  rw [flw, hc']
  dsimp only
  rw [if_neg hr, hl, if_neg (by exact Bool.false_ne_true), if_neg ho]
  rfl
theorem at_pre {pre mid post : List In} {k : Nat} {i : In} (h : mid[k]? = some i) (hc : code = pre ++ mid ++ post) : code[pre.length + k]? = some i := by
  have hk := (List.getElem?_eq_some_iff.mp h).1
  rw [hc, List.append_assoc, List.getElem?_append_right (by omega), Nat.add_sub_cancel_left, List.getElem?_append_left hk]
  exact h
theorem it_go (x : It) {pre post : List In} (hc : code = pre ++ cS pre.length (iS x) ++ post) : ∃ k, k ≤ (cS pre.length (iS x)).length ∧ ∀ (f : Nat) (seen : Seen) (st : Int), SLt pre.length seen → ∃ seen', SLt (pre.length + (cS pre.length (iS x)).length) seen' ∧ flw pos kn code none (f + k) seen (wk pre.length st) = flw pos kn code none f seen' (wk (pre.length + (cS pre.length (iS x)).length) (st + iC x)) := by
  cases x with
  | w n =>
    rw [iS, cS] at hc ⊢
    refine ⟨1, Nat.le_refl _, fun f seen st h => ⟨seen ++ [((pre.length, 0, 0), st)], h.snoc (by show pre.length < pre.length + 1; omega) (by omega), ?_⟩⟩
    have e0 : code[pre.length]? = some (.wait n) := at_pre (k := 0) rfl hc
    rw [step_on e0 h]
    rfl
  | a n =>
    have e : cS pre.length (iS (.a n)) = [.test ⟨false, .eq, .k 0⟩ (pre.length + 2), .wait n] := by
      rw [iS, cS, cB, cB, cS]; rfl
    rw [e] at hc ⊢
    have e0 : code[pre.length]? = some _ := at_pre (k := 0) rfl hc
    have e1 : code[pre.length + 1]? = some _ := at_pre (k := 1) rfl hc
    refine ⟨2, Nat.le_refl _, fun f seen st h => ⟨seen ++ [((pre.length, 0, 0), st)] ++ [((pre.length + 1, 0, 0), st + 1)], ?_, ?_⟩⟩
    · exact (h.snoc (m := pre.length + 1) (by show pre.length < pre.length + 1; omega) (by omega)).snoc (by show pre.length + 1 < pre.length + 2; omega) (by show pre.length + 1 ≤ pre.length + 2; omega)
    · rw [step_on e0 h]
      show flw pos kn code none (f + 1) _ (wk (pre.length + 1) (st + 1)) = _
      rw [step_on e1 (h.snoc (m := pre.length + 1) (by show pre.length < pre.length + 1; omega) (by omega))]
      show flw pos kn code none f _ (wk (pre.length + 2) (st + 1 + n)) = flw pos kn code none f _ (wk (pre.length + 2) (st + (n + 1)))
      rw [show st + 1 + n = st + (n + 1) by omega]
  | b n =>
    have e : cS pre.length (iS (.b n)) = [.test ⟨true, .lt, .k 0⟩ (pre.length + 3), .wait 1000000000000000000000000000000, .jump (pre.length + 4), .wait n] := by
      rw [iS, cS, cB, cB, cS, cS, cB]; rfl
    rw [e] at hc ⊢
    have e0 : code[pre.length]? = some _ := at_pre (k := 0) rfl hc
    have e1 : code[pre.length + 3]? = some _ := at_pre (k := 3) rfl hc
    refine ⟨2, by show 2 ≤ 4; omega, fun f seen st h => ⟨seen ++ [((pre.length, 0, 0), st)] ++ [((pre.length + 3, 0, 0), st + 1)], ?_, ?_⟩⟩
    · exact (h.snoc (m := pre.length + 3) (by show pre.length < pre.length + 3; omega) (by omega)).snoc (by show pre.length + 3 < pre.length + 4; omega) (by show pre.length + 3 ≤ pre.length + 4; omega)
    · rw [step_on e0 h]
      show flw pos kn code none (f + 1) _ (wk (pre.length + 3) (st + 1)) = _
      rw [step_on e1 (h.snoc (m := pre.length + 3) (by show pre.length < pre.length + 3; omega) (by omega))]
      show flw pos kn code none f _ (wk (pre.length + 4) (st + 1 + n)) = flw pos kn code none f _ (wk (pre.length + 4) (st + (n + 1)))
      rw [show st + 1 + n = st + (n + 1) by omega]
def sumC : List It → Int
  | [] => 0
  | x :: xs => iC x + sumC xs
theorem sumC_app : ∀ (a b : List It), sumC (a ++ b) = sumC a + sumC b
  | [], b => by rw [List.nil_append, sumC]; omega
  | x :: a, b => by rw [List.cons_append, sumC, sumC, sumC_app]; omega
theorem its_go : ∀ (xs : List It) {pre post : List In} (hc : code = pre ++ cB pre.length (xs.map iS) ++ post), ∃ k, k ≤ (cB pre.length (xs.map iS)).length ∧ ∀ (f : Nat) (seen : Seen) (st : Int), SLt pre.length seen → ∃ seen', SLt (pre.length + (cB pre.length (xs.map iS)).length) seen' ∧ flw pos kn code none (f + k) seen (wk pre.length st) = flw pos kn code none f seen' (wk (pre.length + (cB pre.length (xs.map iS)).length) (st + sumC xs))
  | [], pre, post, hc => ⟨0, Nat.zero_le _, fun f seen st h => ⟨seen, by rw [List.map_nil, cB]; exact h, by rw [List.map_nil, cB, sumC, Int.add_zero]; rfl⟩⟩
  | x :: xs, pre, post, hc => by
    rw [List.map_cons, cB] at hc ⊢
    generalize hA : cS pre.length (iS x) = A at hc ⊢
    obtain ⟨k1, l1, h1⟩ := it_go (pos := pos) (kn := kn) (code := code) x (pre := pre) (post := cB (pre.length + A.length) (xs.map iS) ++ post) (by rw [hA, hc]; simp only [List.append_assoc])
    rw [hA] at l1 h1
    have hp : (pre ++ A).length = pre.length + A.length := List.length_append
    obtain ⟨k2, l2, h2⟩ := its_go xs (pre := pre ++ A) (post := post) (by rw [hp, hc]; simp only [List.append_assoc])
    rw [hp] at l2 h2
    refine ⟨k2 + k1, by rw [List.length_append]; omega, fun f seen st h => ?_⟩
    obtain ⟨s1, g1, e1⟩ := h1 (f + k2) seen st h
    obtain ⟨s2, g2, e2⟩ := h2 f s1 (st + iC x) g1
    refine ⟨s2, by rw [List.length_append, ← Nat.add_assoc]; exact g2, ?_⟩
    rw [← Nat.add_assoc, e1, e2, List.length_append, sumC, Nat.add_assoc, Int.add_assoc]
end
/-- how it ends -/
def tlS : Option Int → List Stm
  | none => []
  | some v => [.answer v]
def outZ : Option Int → Str
  | none => "ended"
  | some _ => "answered"
def totZ (xs : List It) : Option Int → Int
  | none => sumC xs
  | some _ => sumC xs + 1
theorem run_its {pos : Int} {kn : List Int} (xs : List It) (v : Option Int) : runOf pos kn (cB 0 (xs.map iS ++ tlS v)) none = ⟨outZ v, v, some (totZ xs v), none, none, []⟩ := by
  rw [cB_app, Nat.zero_add]
  generalize hA : cB 0 (xs.map iS) = A
  generalize hB : cB A.length (tlS v) = B
  obtain ⟨k, hk, h⟩ := its_go (pos := pos) (kn := kn) (code := A ++ B) xs (pre := []) (post := B) (by rw [List.nil_append]; show A ++ B = cB 0 _ ++ B; rw [hA])
  have h : ∀ (f : Nat) (seen : Seen) (st : Int), SLt 0 seen → ∃ seen', SLt (0 + (cB 0 (xs.map iS)).length) seen' ∧ flw pos kn (A ++ B) none (f + k) seen (wk 0 st) = flw pos kn (A ++ B) none f seen' (wk (0 + (cB 0 (xs.map iS)).length) (st + sumC xs)) := h
  have hk : k ≤ (cB 0 (xs.map iS)).length := hk
  rw [hA, Nat.zero_add] at h
  rw [hA] at hk
  have hf : ∃ f, (A ++ B).length * 256 + 1 = f + 1 + k ∧ (A ++ B).length ≤ f + k := ⟨(A ++ B).length * 256 - k, by rw [List.length_append]; omega, by rw [List.length_append]; omega⟩
  obtain ⟨f, hf, hf2⟩ := hf
  obtain ⟨s', g, e⟩ := h (f + 1) [] 0 (fun p hp => absurd hp List.not_mem_nil)
  unfold runOf
  rw [hf]
  have ew : w00 = wk 0 0 := rfl
  rw [ew, e, Int.zero_add]
  cases v with
  | none =>
    have hB : B = [] := by rw [← hB, tlS, cB]
    subst hB
    have hn : (A ++ [])[(wk A.length (sumC xs)).idx]? = none := by rw [List.append_nil]; exact List.getElem?_eq_none (Nat.le_refl _)
    rw [flw, hn]
    unfold rnOf
    rw [if_neg (by exact Bool.false_ne_true), if_pos (by show A.length = _; rw [List.append_nil])]
    rfl
  | some v =>
    have hB : B = [.answer v] := by rw [← hB, tlS, cB, cS, cB]; rfl
    subst hB
    have h0 : (A ++ [In.answer v])[A.length]? = some (.answer v) := by rw [List.getElem?_append_right (Nat.le_refl _), Nat.sub_self]; rfl
    rw [step_on h0 g]
    have hfp : ∃ f', f = f' + 1 ∨ f = 0 := by
      cases f with
      | zero => exact ⟨0, .inr rfl⟩
      | succ f => exact ⟨f, .inl rfl⟩
    have hx : (flw pos kn (A ++ [In.answer v]) none f (s' ++ [((A.length, 0, 0), sumC xs)]) (stepW pos kn (.answer v) (wk A.length (sumC xs)))).2 = stepW pos kn (.answer v) (wk A.length (sumC xs)) := by
      have hn : (A ++ [In.answer v])[(stepW pos kn (.answer v) (wk A.length (sumC xs))).idx]? = none := by
        refine List.getElem?_eq_none ?_
        rw [List.length_append]
        exact Nat.le_refl _
      cases f with
      | zero => rfl
      | succ f => rw [flw, hn]
    unfold rnOf
    rw [hx]
    rw [if_pos (by rfl)]
    rfl

/-! ### loops that add to a variable -/
def wk2 (n : Nat) (st a : Int) (as : List Int) : Wk := ⟨n, st, 0, a, 0, none, as, []⟩
theorem lkS_app {seen more : Seen} {s : S3} {v : Int} (h : lkS seen s = some v) : lkS (seen ++ more) s = some v := by
  unfold lkS at h ⊢
  rw [List.find?_append]
  cases hf : seen.find? (fun p => decide (p.1 = s)) with
  | none => rw [hf] at h; cases h
  | some p => rw [hf] at h; exact h
theorem lkS_no {seen : Seen} {s : S3} (h : ∀ p, p ∈ seen → p.1 ≠ s) : lkS seen s = none := by
  unfold lkS
  rw [Option.map_eq_none_iff, List.find?_eq_none]
  intro p hp e
  exact h p hp (of_decide_eq_true e)
theorem lkS_snoc {seen : Seen} {s : S3} {v : Int} (h : lkS seen s = none) : lkS (seen ++ [(s, v)]) s = some v := by
  unfold lkS at h ⊢
  rw [Option.map_eq_none_iff] at h
  rw [List.find?_append, h]
  simp
section
variable {pos : Int} {kn : List Int} {code : List In}
theorem go_on {n f : Nat} {st a : Int} {as : List Int} {seen : Seen} {i : In} (hc : code[n]? = some i) (h : lkS seen (n, a, 0) = none) : flw pos kn code none (f + 1) seen (wk2 n st a as) = flw pos kn code none f (seen ++ [((n, a, 0), st)]) (stepW pos kn i (wk2 n st a as)) := by
  have hl : lkS seen (sOf (wk2 n st a as)) = none := h
  have hr : ¬ (wk2 n st a as).rep.isSome = true := Bool.false_ne_true
  have ho : ¬ ovr none ((wk2 n st a as).st + cost i) = true := Bool.false_ne_true
  have hc' : code[(wk2 n st a as).idx]? = some i := hc
  rw [flw, hc']
  dsimp only
  rw [if_neg hr, hl, if_neg (by exact Bool.false_ne_true), if_neg ho]
  rfl
/-- an instruction that leaves the variables -/
def Inert (pos : Int) (kn : List Int) (a : Int) (i : In) (g : List Int → List Int) : Prop := ∀ n st as, stepW pos kn i (wk2 n st a as) = wk2 (n + 1) (st + cost i) a (g as)
/-- two such ones, an add, and the way back: where the first one stands -/
structure LpAt (code : List In) (n e : Nat) (mid : List In) (by_ : Int) : Prop where
  fm : ∀ k, k < mid.length → code[n + k]? = mid[k]?
  fe : e = n + mid.length
  fa : code[e]? = some (In.add false (.k by_))
  fj : code[e + 1]? = some (In.jump n)
theorem seg_go {a : Int} : ∀ (mid : List In) (gs : List (List Int → List Int)) (n f : Nat) (st : Int) (as : List Int) (seen : Seen), mid.length = gs.length → (∀ (k : Nat) (i : In) (g : List Int → List Int), mid[k]? = some i → gs[k]? = some g → Inert pos kn a i g) → (∀ k, k < mid.length → code[n + k]? = mid[k]?) → (∀ k, n ≤ k → k < n + mid.length → lkS seen (k, a, 0) = none) →
    ∃ seen', flw pos kn code none (f + mid.length) seen (wk2 n st a as) = flw pos kn code none f seen' (wk2 (n + mid.length) (st + (mid.map cost).sum) a (gs.foldl (fun x g => g x) as)) ∧ (∃ more, seen' = seen ++ more ∧ ∀ p, p ∈ more → p.1.2.1 = a ∧ n ≤ p.1.1 ∧ p.1.1 < n + mid.length) ∧ (mid ≠ [] → lkS seen' (n, a, 0) = some st)
  | [], [], n, f, st, as, seen, _, _, _, _ => ⟨seen, by simp, ⟨[], by simp, fun p hp => absurd hp List.not_mem_nil⟩, fun h => absurd rfl h⟩
  | i :: mid, g :: gs, n, f, st, as, seen, hl, hi, hc, hs => by
    have h0 : code[n]? = some i := hc 0 (Nat.zero_lt_succ _)
    have l0 := hs n (Nat.le_refl _) (by rw [List.length_cons]; omega)
    have st0 := hi 0 i g rfl rfl n st as
    have hls := lkS_snoc (v := st) l0
    obtain ⟨s', e1, ⟨more, e2, e3⟩, _⟩ := seg_go mid gs (n + 1) f (st + cost i) (g as) (seen ++ [((n, a, 0), st)]) (by simpa using hl) (fun k i' g' h1 h2 => hi (k + 1) i' g' h1 h2) (fun k hk => by
      have := hc (k + 1) (by rw [List.length_cons]; omega)
      rw [show n + 1 + k = n + (k + 1) by omega, this]; rfl) (fun k h1 h2 => by
      have h3 := hs k (by omega) (by rw [List.length_cons]; omega)
      unfold lkS at h3 ⊢
      rw [Option.map_eq_none_iff] at h3 ⊢
      rw [List.find?_append, h3]
      have : ¬ (((n, a, 0) : S3) = (k, a, 0)) := fun z => by
        have := congrArg Prod.fst z
        dsimp only at this
        omega
      simp [this])
    refine ⟨s', ?_, ⟨[((n, a, 0), st)] ++ more, by rw [e2, List.append_assoc], fun p hp => ?_⟩, fun _ => by rw [e2]; exact lkS_app hls⟩
    · rw [List.length_cons, ← Nat.add_assoc, go_on h0 l0, st0, e1]
      rw [List.map_cons, List.sum_cons, List.foldl_cons, show n + 1 + mid.length = n + (mid.length + 1) by omega, Int.add_assoc]
    · rcases List.mem_append.mp hp with hp | hp
      · rw [List.mem_singleton.mp hp, List.length_cons]
        exact ⟨rfl, Nat.le_refl _, by show n < _; omega⟩
      · have := e3 p hp
        rw [List.length_cons]
        exact ⟨this.1, by omega, by omega⟩
/-- the values of the variable -/
def aw (v b : Int) (j : Nat) : Int := (v + b * (j : Int)) % 16
theorem aw_step {v b : Int} {j : Nat} : (aw v b j + b) % 16 = aw v b (j + 1) := by
  unfold aw
  rw [Int.emod_add_emod]
  congr 1
  push_cast
  rw [Int.mul_add, Int.mul_one, Int.add_assoc]
/-- what was seen behind J rounds -/
def SInv (v b : Int) (n e J : Nat) (seen : Seen) : Prop := ∀ p, p ∈ seen → p.1.1 < n ∨ (∃ j, j < J ∧ p.1.2.1 = aw v b j ∧ p.1.1 < e + 1) ∨ (∃ j, j < J ∧ p.1.2.1 = aw v b (j + 1) ∧ p.1.1 = e + 1)
structure Dst (v b : Int) (R : Nat) : Prop where
  ne : ∀ i j, i < j → j < R → aw v b i ≠ aw v b j
  eq : aw v b R = aw v b 0
  pos : 0 < R
theorem Dst.ne1 {v b : Int} {R : Nat} (h : Dst v b R) {i j : Nat} (hij : i < j) (hj : j < R) : aw v b (i + 1) ≠ aw v b (j + 1) := by
  rcases Nat.eq_or_lt_of_le (show j + 1 ≤ R from hj) with e | e
  · rw [e, h.eq]
    exact fun z => h.ne 0 (i + 1) (by omega) (by omega) z.symm
  · exact h.ne (i + 1) (j + 1) (by omega) e
theorem round_go {v b : Int} {n e R J f : Nat} {mid : List In} {gs : List (List Int → List Int)} {st : Int} {as : List Int} {seen : Seen} (D : Dst v b R) (hJ : J < R) (L : LpAt code n e mid b) (hm : mid ≠ []) (hl : mid.length = gs.length) (hi : ∀ (k : Nat) (i : In) (g : List Int → List Int), mid[k]? = some i → gs[k]? = some g → Inert pos kn (aw v b J) i g) (hs : SInv v b n e J seen) :
    ∃ seen', flw pos kn code none (f + (mid.length + 2)) seen (wk2 n st (aw v b J) as) = flw pos kn code none f seen' (wk2 n (st + ((mid.map cost).sum + 2)) (aw v b (J + 1)) (gs.foldl (fun x g => g x) as)) ∧ SInv v b n e (J + 1) seen' ∧ (∃ more, seen' = seen ++ more) ∧ lkS seen' (n, aw v b J, 0) = some st := by
  have free : ∀ k, n ≤ k → k < e + 1 → lkS seen (k, aw v b J, 0) = none := fun k h1 h2 => lkS_no fun p hp z => by
    have z1 := congrArg (fun s : S3 => s.1) z
    have z2 := congrArg (fun s : S3 => s.2.1) z
    dsimp only at z1 z2
    rcases hs p hp with h | ⟨j, h3, h4, h5⟩ | ⟨j, h3, h4, h5⟩
    · omega
    · exact D.ne j J h3 hJ (h4.symm.trans z2)
    · omega
  obtain ⟨s1, e1, ⟨more, e2, e3⟩, e4⟩ := seg_go (pos := pos) (kn := kn) (code := code) (a := aw v b J) mid gs n (f + 2) st as seen hl hi L.fm (fun k h1 h2 => free k h1 (by rw [L.fe]; omega))
  have he := L.fe
  have lk1 : lkS s1 (e, aw v b J, 0) = none := lkS_no fun p hp z => by
    have z1 := congrArg (fun s : S3 => s.1) z
    dsimp only at z1
    rw [e2] at hp
    rcases List.mem_append.mp hp with hp | hp
    · exact lkS_none (free e (by omega) (by omega)) p hp z
    · have := e3 p hp; omega
  have lk2 : lkS (s1 ++ [((e, aw v b J, 0), st + (mid.map cost).sum)]) (e + 1, aw v b (J + 1), 0) = none := lkS_no fun p hp z => by
    have z1 := congrArg (fun s : S3 => s.1) z
    have z2 := congrArg (fun s : S3 => s.2.1) z
    dsimp only at z1 z2
    rcases List.mem_append.mp hp with hp | hp
    · rw [e2] at hp
      rcases List.mem_append.mp hp with hp | hp
      · rcases hs p hp with h | ⟨j, h3, h4, h5⟩ | ⟨j, h3, h4, h5⟩
        · omega
        · omega
        · exact D.ne1 h3 hJ (h4.symm.trans z2)
      · have := e3 p hp; omega
    · rw [List.mem_singleton.mp hp] at z1
      dsimp only at z1
      omega
  refine ⟨s1 ++ [((e, aw v b J, 0), st + (mid.map cost).sum)] ++ [((e + 1, aw v b (J + 1), 0), st + (mid.map cost).sum + 1)], ?_, ?_, ⟨more ++ [((e, aw v b J, 0), st + (mid.map cost).sum)] ++ [((e + 1, aw v b (J + 1), 0), st + (mid.map cost).sum + 1)], by rw [e2]; simp only [List.append_assoc]⟩, lkS_app (lkS_app (e4 hm))⟩
  · rw [show f + (mid.length + 2) = f + 2 + mid.length by omega, e1, ← he]
    rw [show f + 2 = f + 1 + 1 from rfl, go_on L.fa lk1]
    have st1 : stepW pos kn (.add false (.k b)) (wk2 e (st + (mid.map cost).sum) (aw v b J) (gs.foldl (fun x g => g x) as)) = wk2 (e + 1) (st + (mid.map cost).sum + 1) (aw v b (J + 1)) (gs.foldl (fun x g => g x) as) := by
      rw [← aw_step]; rfl
    rw [st1, go_on L.fj lk2]
    show flw pos kn code none f _ (wk2 n (st + (mid.map cost).sum + 1 + 1) (aw v b (J + 1)) (gs.foldl (fun x g => g x) as)) = _
    rw [show st + (mid.map cost).sum + 1 + 1 = st + ((mid.map cost).sum + 2) by omega]
  · intro p hp
    rcases List.mem_append.mp hp with hp | hp
    · rcases List.mem_append.mp hp with hp | hp
      · rw [e2] at hp
        rcases List.mem_append.mp hp with hp | hp
        · rcases hs p hp with h | ⟨j, h3, h4, h5⟩ | ⟨j, h3, h4, h5⟩
          · exact .inl h
          · exact .inr (.inl ⟨j, by omega, h4, h5⟩)
          · exact .inr (.inr ⟨j, by omega, h4, h5⟩)
        · have := e3 p hp
          exact .inr (.inl ⟨J, by omega, this.1, by omega⟩)
      · rw [List.mem_singleton.mp hp]
        exact .inr (.inl ⟨J, by omega, rfl, by show e < e + 1; omega⟩)
    · rw [List.mem_singleton.mp hp]
      exact .inr (.inr ⟨J, by omega, rfl, rfl⟩)
theorem rounds_go {v b : Int} {n e R : Nat} {mid : List In} {gs : Nat → List (List Int → List Int)} {st : Int} {seen : Seen} (D : Dst v b R) (L : LpAt code n e mid b) (hm : mid ≠ []) (hs : SLt n seen) : ∀ (J : Nat), J ≤ R → (∀ j, j < J → mid.length = (gs j).length ∧ ∀ (k : Nat) (i : In) (g : List Int → List Int), mid[k]? = some i → (gs j)[k]? = some g → Inert pos kn (aw v b j) i g) → ∀ f, ∃ seen' as', flw pos kn code none (f + J * (mid.length + 2)) seen (wk2 n st (aw v b 0) []) = flw pos kn code none f seen' (wk2 n (st + J * ((mid.map cost).sum + 2)) (aw v b J) as') ∧ as' = (List.range J).foldl (fun x j => (gs j).foldl (fun x g => g x) x) [] ∧ SInv v b n e J seen' ∧ (0 < J → lkS seen' (n, aw v b 0, 0) = some st)
  | 0, _, _, f => ⟨seen, [], by simp, rfl, fun p hp => .inl (hs p hp), fun h => absurd h (Nat.lt_irrefl 0)⟩
  | J + 1, hJ, hi, f => by
    obtain ⟨s1, a1, e1, ea, i1, k1⟩ := rounds_go D L hm hs J (by omega) (fun j hj => hi j (by omega)) (f + (mid.length + 2))
    obtain ⟨h1, h2⟩ := hi J (by omega)
    obtain ⟨s2, e2, i2, ⟨more, e3⟩, k2⟩ := round_go (pos := pos) (kn := kn) (f := f) (st := st + J * ((mid.map cost).sum + 2)) (as := a1) D (by omega) L hm h1 h2 i1
    refine ⟨s2, _, ?_, rfl, i2, fun _ => ?_⟩
    · rw [show f + (J + 1) * (mid.length + 2) = f + (mid.length + 2) + J * (mid.length + 2) by rw [Nat.add_mul]; omega, e1, e2, List.range_succ, List.foldl_append, ← ea]
      show _ = flw pos kn code none f s2 (wk2 n (st + ((J + 1 : Nat) : Int) * ((mid.map cost).sum + 2)) _ _)
      rw [show st + (J : Int) * ((mid.map cost).sum + 2) + ((mid.map cost).sum + 2) = st + ((J + 1 : Nat) : Int) * ((mid.map cost).sum + 2) by push_cast; rw [Int.add_mul]; omega]
      rfl
    · cases J with
      | zero => simpa using k2
      | succ J => rw [e3]; exact lkS_app (k1 (by omega))
end

/-! ### the two programs of k11 -/
theorem cB_waits : ∀ (ws : List Int) (n : Nat), cB n (ws.map Stm.wait) = ws.map In.wait
  | [], n => by rw [List.map_nil, List.map_nil, cB]
  | w :: ws, n => by rw [List.map_cons, cB, cS, cB_waits ws]; rfl
theorem sumC_w : ∀ ws : List Int, sumC (ws.map It.w) = ws.sum
  | [] => rfl
  | w :: ws => by rw [List.map_cons, sumC, sumC_w ws, List.sum_cons]; rfl
theorem map_w : ∀ ws : List Int, (ws.map It.w).map iS = ws.map Stm.wait
  | [] => rfl
  | w :: ws => by rw [List.map_cons, List.map_cons, map_w ws]; rfl
theorem aw_0 {v b : Int} (h : 0 ≤ v ∧ v < 16) : aw v b 0 = v := by
  unfold aw
  rw [show v + b * ((0 : Nat) : Int) = v by simp]
  omega
theorem aw_b {v b : Int} {j : Nat} : 0 ≤ aw v b j ∧ aw v b j < 16 := ⟨Int.emod_nonneg _ (by omega), Int.emod_lt_of_pos _ (by omega)⟩
section
variable {pos : Int} {kn : List Int} {code : List In}
theorem ahead_go {ws : List Int} {v : Int} {post : List In} (hc : code = ws.map In.wait ++ In.set false v :: post) : ∃ k, k ≤ ws.length + 1 ∧ ∀ f, ∃ s', SLt (ws.length + 1) s' ∧ flw pos kn code none (f + k) [] w00 = flw pos kn code none f s' (wk2 (ws.length + 1) (ws.sum + 1) v []) := by
  obtain ⟨k, hk, h⟩ := its_go (pos := pos) (kn := kn) (code := code) (ws.map It.w) (pre := []) (post := In.set false v :: post) (by rw [map_w, cB_waits, hc]; rfl)
  rw [map_w, cB_waits, List.length_map] at hk h
  refine ⟨k + 1, by omega, fun f => ?_⟩
  obtain ⟨s', h1, h2⟩ := h (f + 1) [] 0 (fun p hp => absurd hp List.not_mem_nil)
  rw [sumC_w] at h2
  have e1 : flw pos kn code none (f + 1 + k) [] w00 = flw pos kn code none (f + 1) s' (wk2 (0 + ws.length) (0 + ws.sum) 0 []) := h2
  rw [Nat.zero_add, Int.zero_add] at e1
  have h1 : SLt (0 + ws.length) s' := h1
  rw [Nat.zero_add] at h1
  have hs : code[ws.length]? = some (In.set false v) := by
    rw [hc, List.getElem?_append_right (by rw [List.length_map]; omega), List.length_map, Nat.sub_self]; rfl
  refine ⟨s' ++ [((ws.length, 0, 0), ws.sum)], h1.snoc (by show ws.length < ws.length + 1; omega) (by omega), ?_⟩
  rw [show f + (k + 1) = f + 1 + k by omega, e1, go_on hs (lk_lt h1 (Nat.le_refl _))]
  rfl
/-- a loop without an end: it comes back to its first state -/
theorem loop_end {v b st : Int} {n e R : Nat} {mid : List In} {gs : Nat → List (List Int → List Int)} {seen : Seen} {f : Nat} (D : Dst v b R) (L : LpAt code n e mid b) (hm : mid ≠ []) (hs : SLt n seen) (hi : ∀ j, j < R → mid.length = (gs j).length ∧ ∀ (k : Nat) (i : In) (g : List Int → List Int), mid[k]? = some i → (gs j)[k]? = some g → Inert pos kn (aw v b j) i g) (hf : R * (mid.length + 2) ≤ f) (hn : n ≠ code.length) :
    rnOf none code.length (flw pos kn code none f seen (wk2 n st (aw v b 0) [])) = ⟨"silent", none, none, some st, some (st + R * ((mid.map cost).sum + 2)), isort ((List.range R).foldl (fun x j => (gs j).foldl (fun x g => g x) x) [])⟩ := by
  obtain ⟨s', as', e1, ea, i1, k1⟩ := rounds_go (pos := pos) (kn := kn) (gs := gs) (st := st) D L hm hs R (Nat.le_refl _) hi (f - R * (mid.length + 2))
  have hk := k1 D.pos
  rw [Nat.sub_add_cancel hf] at e1
  have hst : ∀ g, flw pos kn code none g s' (wk2 n (st + R * ((mid.map cost).sum + 2)) (aw v b R) as') = (s', wk2 n (st + R * ((mid.map cost).sum + 2)) (aw v b R) as') := by
    intro g
    cases g with
    | zero => rfl
    | succ g =>
      rw [flw]
      cases hc : code[(wk2 n (st + R * ((mid.map cost).sum + 2)) (aw v b R) as').idx]? with
      | none => rfl
      | some i =>
        dsimp only
        have hl : lkS s' (sOf (wk2 n (st + R * ((mid.map cost).sum + 2)) (aw v b R) as')) = some st := by
          show lkS s' (n, aw v b R, 0) = some st
          rw [D.eq]; exact hk
        rw [if_neg (by exact Bool.false_ne_true), hl, if_pos (by rfl)]
  rw [e1, hst]
  unfold rnOf
  dsimp only
  have hl : lkS s' (sOf (wk2 n (st + R * ((mid.map cost).sum + 2)) (aw v b R) as')) = some st := by
    show lkS s' (n, aw v b R, 0) = some st
    rw [D.eq]; exact hk
  rw [if_neg (by exact Bool.false_ne_true), if_neg (by exact hn), if_neg (by exact Bool.false_ne_true), hl, ← ea]
  rfl
end
def body1 (ws : List Int) (v b p : Int) (s : Di) : List Stm := ws.map Stm.wait ++ [.set false v, .whl ⟨true, .eq, .k 0⟩ [.ask s (.v false) true, .wait p, .add false (.k b)]]
def body2 (ws : List Int) (v b p g : Int) : List Stm := ws.map Stm.wait ++ [.set false v, .whl ⟨false, .ne, .k g⟩ [.wait p, .add false (.k b)], .answer 1]
theorem code1 {ws : List Int} {v b p : Int} {s : Di} : cB 0 (body1 ws v b p s) = ws.map In.wait ++ In.set false v :: [.test ⟨true, .eq, .k 0⟩ (ws.length + 1 + 5), .ask s (.v false) true, .wait p, .add false (.k b), .jump (ws.length + 1)] := by
  unfold body1
  rw [cB_app, cB_waits, Nat.zero_add, List.length_map, cB, cS, cB, cS, cB, cB, cB, cB, cS, cS, cS]; rfl
theorem code2 {ws : List Int} {v b p g : Int} : cB 0 (body2 ws v b p g) = ws.map In.wait ++ In.set false v :: [.test ⟨false, .ne, .k g⟩ (ws.length + 1 + 4), .wait p, .add false (.k b), .jump (ws.length + 1), .answer 1] := by
  unfold body2
  rw [cB_app, cB_waits, Nat.zero_add, List.length_map, cB, cS, cB, cS, cB, cB, cB, cB, cB, cS, cS, cS]; rfl
theorem atc11 {ws : List Int} {v : Int} {post : List In} {k : Nat} : (ws.map In.wait ++ In.set false v :: post)[ws.length + 1 + k]? = post[k]? := by
  rw [List.getElem?_append_right (by rw [List.length_map]; omega), List.length_map, show ws.length + 1 + k - ws.length = k + 1 by omega]; rfl
theorem run1 {ws : List Int} {v b p pos : Int} {s : Di} {R : Nat} (hv : 0 ≤ v ∧ v < 16) (hp : 16 ≤ pos) (D : Dst v b R) (hR : R ≤ 16) (hsd : s ≠ .at_) : runOf pos [] (cB 0 (body1 ws v b p s)) none = ⟨"silent", none, none, some (ws.sum + 1), some (ws.sum + 1 + R * (p + 4)), isort ((List.range R).foldl (fun x j => insK x (plc s pos (aw v b j))) [])⟩ := by
  rw [code1]
  generalize hc : ws.map In.wait ++ In.set false v :: [In.test ⟨true, .eq, .k 0⟩ (ws.length + 1 + 5), .ask s (.v false) true, .wait p, .add false (.k b), .jump (ws.length + 1)] = code
  obtain ⟨k, hk, h⟩ := ahead_go (pos := pos) (kn := []) hc.symm
  have hlen : code.length = ws.length + 6 := by rw [← hc, List.length_append, List.length_map]; rfl
  obtain ⟨s', h1, h2⟩ := h (code.length * 256 + 1 - k)
  unfold runOf
  rw [show code.length * 256 + 1 = code.length * 256 + 1 - k + k by omega, h2]
  have hcode : ∀ k, code[ws.length + 1 + k]? = [In.test ⟨true, .eq, .k 0⟩ (ws.length + 1 + 5), .ask s (.v false) true, .wait p, .add false (.k b), .jump (ws.length + 1)][k]? := fun k => by rw [← hc]; exact atc11
  have L : LpAt code (ws.length + 1) (ws.length + 1 + 3) [In.test ⟨true, .eq, .k 0⟩ (ws.length + 1 + 5), .ask s (.v false) true, .wait p] b := ⟨fun k hk => by
    rw [hcode]
    have hk : k < 3 := hk
    rcases (show k = 0 ∨ k = 1 ∨ k = 2 by omega) with rfl | rfl | rfl <;> rfl, rfl, hcode 3, hcode 4⟩
  have := loop_end (pos := pos) (kn := []) (st := ws.sum + 1) (seen := s') (f := code.length * 256 + 1 - k) (gs := fun j => [fun x => x, fun x => insK x (plc s pos (aw v b j)), fun x => x]) D L (by simp) h1 (fun j hj => ⟨rfl, fun k i g hi hg => by
    have h0 := aw_b (v := v) (b := b) (j := j)
    rcases (show k = 0 ∨ k = 1 ∨ k = 2 ∨ 3 ≤ k by omega) with rfl | rfl | rfl | hk
    · cases hi
      cases hg
      intro n st as
      have hcd : cdv ⟨true, .eq, .k 0⟩ (wk2 (n + 1) (st + 1) (aw v b j) as) = true := rfl
      show (if cdv ⟨true, .eq, .k 0⟩ (wk2 (n + 1) (st + 1) (aw v b j) as) = true then wk2 (n + 1) (st + 1) (aw v b j) as else { wk2 (n + 1) (st + 1) (aw v b j) as with idx := ws.length + 1 + 5 }) = _
      rw [if_pos hcd]
      rfl
    · cases hi
      cases hg
      intro n st as
      have hpl : 0 ≤ plc s pos (aw v b j) := by
        cases s with
        | pl => show 0 ≤ pos + _; omega
        | mi => show 0 ≤ pos - _; omega
        | at_ => exact absurd rfl hsd
      show ({ (wk2 (n + 1) (st + 1) (aw v b j) as).sv true (if 0 ≤ plc s pos (aw v b j) ∧ plc s pos (aw v b j) ∈ [] then 1 else 0) with asked := if 0 ≤ plc s pos (aw v b j) then insK as (plc s pos (aw v b j)) else as } : Wk) = _
      rw [if_pos hpl, if_neg (fun z => List.not_mem_nil z.2)]
      rfl
    · cases hi
      cases hg
      intro n st as
      rfl
    · rw [List.getElem?_eq_none (by exact hk)] at hi; cases hi⟩) (by show R * 5 ≤ _; omega) (by omega)
  rw [aw_0 hv] at this
  have hsum : (([In.test ⟨true, .eq, .k 0⟩ (ws.length + 1 + 5), .ask s (.v false) true, .wait p] : List In).map cost).sum + 2 = p + 4 := by
    show (1 : Int) + (1 + (p + 0)) + 2 = p + 4; omega
  rw [hsum] at this
  exact this
theorem run2_silent {ws : List Int} {v b p g pos : Int} {kn : List Int} {R : Nat} (hv : 0 ≤ v ∧ v < 16) (D : Dst v b R) (hR : R ≤ 16) (hg : ∀ j, j < R → aw v b j ≠ g) : runOf pos kn (cB 0 (body2 ws v b p g)) none = ⟨"silent", none, none, some (ws.sum + 1), some (ws.sum + 1 + R * (p + 3)), []⟩ := by
  rw [code2]
  generalize hc : ws.map In.wait ++ In.set false v :: [In.test ⟨false, .ne, .k g⟩ (ws.length + 1 + 4), .wait p, .add false (.k b), .jump (ws.length + 1), .answer 1] = code
  obtain ⟨k, hk, h⟩ := ahead_go (pos := pos) (kn := kn) hc.symm
  have hlen : code.length = ws.length + 6 := by rw [← hc, List.length_append, List.length_map]; rfl
  obtain ⟨s', h1, h2⟩ := h (code.length * 256 + 1 - k)
  unfold runOf
  rw [show code.length * 256 + 1 = code.length * 256 + 1 - k + k by omega, h2]
  have hcode : ∀ k, code[ws.length + 1 + k]? = [In.test ⟨false, .ne, .k g⟩ (ws.length + 1 + 4), .wait p, .add false (.k b), .jump (ws.length + 1), .answer 1][k]? := fun k => by rw [← hc]; exact atc11
  have L : LpAt code (ws.length + 1) (ws.length + 1 + 2) [In.test ⟨false, .ne, .k g⟩ (ws.length + 1 + 4), .wait p] b := ⟨fun k hk => by
    rw [hcode]
    have hk : k < 2 := hk
    rcases (show k = 0 ∨ k = 1 by omega) with rfl | rfl <;> rfl, rfl, hcode 2, hcode 3⟩
  have := loop_end (pos := pos) (kn := kn) (st := ws.sum + 1) (seen := s') (f := code.length * 256 + 1 - k) (gs := fun j => [fun x => x, fun x => x]) D L (by simp) h1 (fun j hj => ⟨rfl, fun k i g' hi hg' => by
    rcases (show k = 0 ∨ k = 1 ∨ 2 ≤ k by omega) with rfl | rfl | hk
    · cases hi
      cases hg'
      intro n st as
      have hcd : cdv ⟨false, .ne, .k g⟩ (wk2 (n + 1) (st + 1) (aw v b j) as) = true := by
        show (!decide (aw v b j = g)) = true
        rw [decide_eq_false (hg j hj)]; rfl
      show (if cdv ⟨false, .ne, .k g⟩ (wk2 (n + 1) (st + 1) (aw v b j) as) = true then wk2 (n + 1) (st + 1) (aw v b j) as else _) = _
      rw [if_pos hcd]
      rfl
    · cases hi
      cases hg'
      intro n st as
      rfl
    · rw [List.getElem?_eq_none (by exact hk)] at hi; cases hi⟩) (by show R * 4 ≤ _; omega) (by omega)
  rw [aw_0 hv] at this
  have hsum : (([In.test ⟨false, .ne, .k g⟩ (ws.length + 1 + 4), .wait p] : List In).map cost).sum + 2 = p + 3 := by
    show (1 : Int) + (p + 0) + 2 = p + 3; omega
  have hfold : ∀ l : List Nat, l.foldl (fun x j => ([fun x => x, fun x => x] : List (List Int → List Int)).foldl (fun x g => g x) x) ([] : List Int) = [] := by
    intro l
    induction l with
    | nil => rfl
    | cons a l ih => exact ih
  rw [hsum, hfold] at this
  exact this
theorem run2_ans {ws : List Int} {v b p g pos : Int} {kn : List Int} {R c : Nat} (hv : 0 ≤ v ∧ v < 16) (D : Dst v b R) (hR : R ≤ 16) (hcR : c < R) (hg : ∀ j, j < c → aw v b j ≠ g) (hgc : aw v b c = g) : runOf pos kn (cB 0 (body2 ws v b p g)) none = ⟨"answered", some 1, some (ws.sum + 1 + c * (p + 3) + 2), none, none, []⟩ := by
  rw [code2]
  generalize hc : ws.map In.wait ++ In.set false v :: [In.test ⟨false, .ne, .k g⟩ (ws.length + 1 + 4), .wait p, .add false (.k b), .jump (ws.length + 1), .answer 1] = code
  obtain ⟨k, hk, h⟩ := ahead_go (pos := pos) (kn := kn) hc.symm
  have hlen : code.length = ws.length + 6 := by rw [← hc, List.length_append, List.length_map]; rfl
  obtain ⟨s', h1, h2⟩ := h (code.length * 256 + 1 - k)
  unfold runOf
  rw [show code.length * 256 + 1 = code.length * 256 + 1 - k + k by omega, h2]
  have hcode : ∀ k, code[ws.length + 1 + k]? = [In.test ⟨false, .ne, .k g⟩ (ws.length + 1 + 4), .wait p, .add false (.k b), .jump (ws.length + 1), .answer 1][k]? := fun k => by rw [← hc]; exact atc11
  have L : LpAt code (ws.length + 1) (ws.length + 1 + 2) [In.test ⟨false, .ne, .k g⟩ (ws.length + 1 + 4), .wait p] b := ⟨fun k hk => by
    rw [hcode]
    have hk : k < 2 := hk
    rcases (show k = 0 ∨ k = 1 by omega) with rfl | rfl <;> rfl, rfl, hcode 2, hcode 3⟩
  have hsum : (([In.test ⟨false, .ne, .k g⟩ (ws.length + 1 + 4), .wait p] : List In).map cost).sum + 2 = p + 3 := by
    show (1 : Int) + (p + 0) + 2 = p + 3; omega
  obtain ⟨f, hf⟩ : ∃ f, code.length * 256 + 1 - k = f + 2 + c * 4 := ⟨code.length * 256 + 1 - k - 2 - c * 4, by omega⟩
  obtain ⟨s2, as, e1, ea, i1, _⟩ := rounds_go (pos := pos) (kn := kn) (code := code) (st := ws.sum + 1) (gs := fun _ => [fun x => x, fun x => x]) D L (by simp) h1 c (by omega) (fun j hj => ⟨rfl, fun k i g' hi hg' => by
    rcases (show k = 0 ∨ k = 1 ∨ 2 ≤ k by omega) with rfl | rfl | hk
    · cases hi
      cases hg'
      intro n st as
      have hcd : cdv ⟨false, .ne, .k g⟩ (wk2 (n + 1) (st + 1) (aw v b j) as) = true := by
        show (!decide (aw v b j = g)) = true
        rw [decide_eq_false (hg j hj)]; rfl
      show (if cdv ⟨false, .ne, .k g⟩ (wk2 (n + 1) (st + 1) (aw v b j) as) = true then wk2 (n + 1) (st + 1) (aw v b j) as else _) = _
      rw [if_pos hcd]
      rfl
    · cases hi
      cases hg'
      intro n st as
      rfl
    · rw [List.getElem?_eq_none (by exact hk)] at hi; cases hi⟩) (f + 2)
  have hfold : ∀ l : List Nat, l.foldl (fun x j => ([fun x => x, fun x => x] : List (List Int → List Int)).foldl (fun x g => g x) x) ([] : List Int) = [] := by
    intro l
    induction l with
    | nil => rfl
    | cons a l ih => exact ih
  rw [hfold] at ea
  subst ea
  rw [hsum, aw_0 hv] at e1
  have e1 : flw pos kn code none (f + 2 + c * 4) s' (wk2 (ws.length + 1) (ws.sum + 1) v []) = flw pos kn code none (f + 1 + 1) s2 (wk2 (ws.length + 1) (ws.sum + 1 + c * (p + 3)) (aw v b c) []) := e1
  rw [hf, e1]
  have hl1 : lkS s2 (ws.length + 1, aw v b c, 0) = none := lkS_no fun q hq z => by
    have z1 := congrArg (fun s : S3 => s.1) z
    have z2 := congrArg (fun s : S3 => s.2.1) z
    dsimp only at z1 z2
    rcases i1 q hq with h | ⟨j, h3, h4, h5⟩ | ⟨j, h3, h4, h5⟩
    · omega
    · exact D.ne j c h3 hcR (h4.symm.trans z2)
    · omega
  rw [go_on (hcode 0) hl1]
  have hcd : ¬ cdv ⟨false, .ne, .k g⟩ (wk2 (ws.length + 1 + 1) (ws.sum + 1 + c * (p + 3) + 1) (aw v b c) []) = true := by
    show ¬ (!decide (aw v b c = g)) = true
    rw [decide_eq_true hgc]; exact Bool.false_ne_true
  have st1 : stepW pos kn (.test ⟨false, .ne, .k g⟩ (ws.length + 1 + 4)) (wk2 (ws.length + 1) (ws.sum + 1 + c * (p + 3)) (aw v b c) []) = wk2 (ws.length + 1 + 4) (ws.sum + 1 + c * (p + 3) + 1) (aw v b c) [] := by
    show (if cdv ⟨false, .ne, .k g⟩ (wk2 (ws.length + 1 + 1) (ws.sum + 1 + c * (p + 3) + 1) (aw v b c) []) = true then _ else _) = _
    rw [if_neg hcd]; rfl
  rw [st1]
  have hl2 : lkS (s2 ++ [((ws.length + 1, aw v b c, 0), ws.sum + 1 + c * (p + 3))]) (ws.length + 1 + 4, aw v b c, 0) = none := lkS_no fun q hq z => by
    have z1 := congrArg (fun s : S3 => s.1) z
    dsimp only at z1
    rcases List.mem_append.mp hq with hq | hq
    · rcases i1 q hq with h | ⟨j, h3, h4, h5⟩ | ⟨j, h3, h4, h5⟩ <;> omega
    · rw [List.mem_singleton.mp hq] at z1
      dsimp only at z1
      omega
  rw [go_on (hcode 4) hl2]
  generalize s2 ++ [((ws.length + 1, aw v b c, 0), ws.sum + 1 + c * (p + 3))] ++ [((ws.length + 1 + 4, aw v b c, 0), ws.sum + 1 + c * (p + 3) + 1)] = s3
  have hx : (flw pos kn code none f s3 (stepW pos kn (.answer 1) (wk2 (ws.length + 1 + 4) (ws.sum + 1 + c * (p + 3) + 1) (aw v b c) []))).2 = stepW pos kn (.answer 1) (wk2 (ws.length + 1 + 4) (ws.sum + 1 + c * (p + 3) + 1) (aw v b c) []) := by
    have hn : code[(stepW pos kn (.answer 1) (wk2 (ws.length + 1 + 4) (ws.sum + 1 + c * (p + 3) + 1) (aw v b c) [])).idx]? = none := by
      refine List.getElem?_eq_none ?_
      show code.length ≤ ws.length + 1 + 4 + 1
      omega
    cases f with
    | zero => rfl
    | succ f => rw [flw, hn]
  unfold rnOf
  rw [hx, if_pos (by rfl)]
  show (⟨"answered", some 1, some (ws.sum + 1 + c * (p + 3) + 1 + 1), none, none, []⟩ : Rn) = _
  rw [show ws.sum + 1 + c * (p + 3) + 1 + 1 = ws.sum + 1 + c * (p + 3) + 2 by omega]

/-! ### k11: the law's own parts -/
def wv (n : Int) : Vl := .tup [.str "wait", .int n]
def sv_ (v : Int) : Vl := .tup [.str "set", .str "a", .int v]
theorem cut_last {xs : List Vl} {y : Vl} : cutL (xs ++ [y]) none (some (-1)) = xs := by
  unfold cutL
  have h1 : HT.sIx (xs ++ [y]).length 0 none = 0 := rfl
  have h2 : HT.sIx (xs ++ [y]).length ((xs ++ [y]).length) (some (-1)) = xs.length := by
    unfold HT.sIx
    rw [List.length_append]
    show (if _ then _ else _) = _
    simp
    omega
  rw [h1, h2, List.drop_zero, Nat.sub_zero, List.take_left]
theorem toInts_m : ∀ {l : List Int}, toInts (l.map Vl.int) = some l
  | [] => rfl
  | k :: l => by
    rw [List.map_cons, toInts, toInts_m]; rfl
theorem loop_ok {φ b : Nat} {S : Sto} (hφ : 12 < φ) (hb : Bag S b) : ∃ (la : Nat) (ws : List Int) (v : Int) (S' : Sto), m__law_loop φ [.ref b] S = .ok (.tup [.ref la, .int (ws.sum + 1), .int v]) S' ∧ S'[la]? = some (.lst (ws.map wv ++ [sv_ v])) ∧ (∀ n, n ∈ ws → 1 ≤ n ∧ n ≤ 10 ^ 30) ∧ ws.length ≤ 4 ∧ (0 ≤ v ∧ v < 16) ∧ Kp [b] S S' ∧ Bag S' b ∧ la ≠ b := by
  obtain ⟨v, S1, h1, k1, b1, l1, u1⟩ := draw_ok (φ := φ) (m := 16) hb (by omega) (by omega)
  obtain ⟨r, S2, h2, k2, b2, l2, u2⟩ := draw_ok (φ := φ) (m := 4) b1 (by omega) (by omega)
  have hr : -4611686018427387904 ≤ r ∧ r < 4611686018427387904 := by omega
  have hlb := b2.lt
  have hlb0 := hb.lt
  have hle := (k1.trans k2).len
  obtain ⟨ys, S3, h3, ws, hy, hl, hws, hD, hk, hb3⟩ := lc_inv (I := itR 0 r.toNat) (it := iRange1 (aCons (xCall 2 2 (fun xs _ => xs) 0 (m__law_draw φ) (bArgs (aCons (xVar 0) (aCons (xC (.int 4)) aNil)) aNil)) aNil)) (k := 3) (t := yYes) (e := xTup (aCons (xC (.str "wait")) (aCons (xCall 1 1 (fun xs _ => xs) 0 (m__law_steps φ) (bArgs (aCons (xVar 0) aNil) aNil)) aNil))) (vs := [3]) (env := [some (.ref b), some (.int v), none, none, none]) (env' := [some (.ref b), some (.int v), none, none, none]) (S := S1) (S1 := S2) (rngL 0 r.toNat)
    (fun i ys S' => ∃ ws : List Int, ys = ws.map wv ∧ ws.length = i ∧ (∀ n, n ∈ ws → 1 ≤ n ∧ n ≤ 10 ^ 30) ∧ S'[S2.length]? = some (.lst ys) ∧ Kp [b] S1 S' ∧ Bag S' b)
    (by simp! only [h2, hr]) rfl (by rw [rngL_len]; rfl) (fun _ _ _ _ => nxt_R)
    (fun i x ys S' hx ⟨ws, hy, hl, hws, hD, hk, hbb⟩ => by
      obtain ⟨hi, rfl⟩ := rngL_get hx
      obtain ⟨n, T, g1, g2, g3, g4, g5⟩ := steps_ok (φ := φ) hφ hbb
      have gD := g2.get hD (ni1 (by omega))
      have hk2 := k2.len
      refine ⟨true, S', rfl, .inr ⟨rfl, wv n, T, ?_, gD, by rw [hy, List.length_map, hl]; omega, ws ++ [n], by rw [hy, List.map_append]; rfl, by rw [List.length_append, hl]; rfl, ?_, get_set gD, (hk.trans g2).late (Kp.set (i := S2.length) (List.mem_singleton.mpr rfl)) (fun z hz => by rw [List.mem_singleton.mp hz]; right; omega), ?_⟩⟩
      · unfold wv
        simp! only [g1]
      · intro m hm
        rcases List.mem_append.mp hm with hm | hm
        · exact hws m hm
        · rw [List.mem_singleton.mp hm]; exact ⟨g4, g5⟩
      · obtain ⟨x, y, hx⟩ := g3
        exact ⟨x, y, by rw [get_set_ne (by omega)]; exact hx⟩)
    ⟨[], rfl, rfl, fun n hn => absurd hn List.not_mem_nil, get_new, k2.trans Kp.app, b2.app⟩
  have hwl : ws.length ≤ 4 := by rw [hl, rngL_len]; omega
  rw [hy] at hD
  have hl3 := get_lt hD
  generalize hT1 : S3 ++ [Ob.lst [sv_ v]] = T1
  generalize hT2 : T1 ++ [Ob.lst (ws.map wv ++ [sv_ v])] = T2
  generalize hT3 : T2 ++ [Ob.lst (ws.map wv)] = T3
  have n1 : T1[S3.length]? = some (Ob.lst [sv_ v]) := by rw [← hT1]; exact get_new
  have d1 : T1[S2.length]? = some (Ob.lst (ws.map wv)) := by rw [← hT1]; exact get_app hD
  have n2 : T2[T1.length]? = some (Ob.lst (ws.map wv ++ [sv_ v])) := by rw [← hT2]; exact get_new
  have n3 : T3[T2.length]? = some (Ob.lst (ws.map wv)) := by rw [← hT3]; exact get_new
  have hladd : (ws.map wv).length ≤ 99999 := by rw [List.length_map]; omega
  generalize hT4 : T3 ++ [Ob.lst (ws.map Vl.int)] = T4
  have n4 : T4[T3.length]? = some (Ob.lst (ws.map Vl.int)) := by rw [← hT4]; exact get_new
  have hsum : vSum [.ref T3.length] T4 = .ok (.int ws.sum) T4 := by
    unfold vSum
    dsimp only
    rw [n4]
    dsimp only
    rw [toInts_m]
  have hcut := cut_last (xs := ws.map wv) (y := sv_ v)
  have hmapw : (ws.map wv).map (fun x => match x with | .tup [_, y] => y | _ => Vl.non) = ws.map Vl.int := by rw [List.map_map]; rfl
  -- the comprehension over the slice
  have l5 : xLc (iAny (xSl (xVar 2) oNone (oSome (xUn vNeg (xC (.int 1)))))) (gmName 4) yYes (xOp vIx (xVar 4) (xC (.int 1))) [4] [some (.ref b), some (.int v), some (.ref T1.length), none, none] T2 = .ok (.ref T3.length) T4 := by
    obtain ⟨ys, S', g1, g2, g3⟩ := lc_inv (I := itL T2.length (ws.map wv).length) (it := iAny (xSl (xVar 2) oNone (oSome (xUn vNeg (xC (.int 1)))))) (k := 4) (t := yYes) (e := xOp vIx (xVar 4) (xC (.int 1))) (vs := [4]) (env := [some (.ref b), some (.int v), some (.ref T1.length), none, none]) (env' := [some (.ref b), some (.int v), some (.ref T1.length), none, none]) (S := T2) (S1 := T3) (ws.map wv) (fun i ys S' => ys = (ws.take i).map Vl.int ∧ S' = T3 ++ [.lst ys]) (by simp! only [n2, hcut, hT3, n3]) rfl rfl
      (fun i ys S' ⟨_, h⟩ => by
        subst h
        exact nxt_L (get_app n3))
      (fun i x ys S' hx ⟨hy, h⟩ => by
        subst h
        rw [List.getElem?_map] at hx
        cases hm : ws[i]? with
        | none => rw [hm] at hx; cases hx
        | some n =>
          rw [hm] at hx
          cases hx
          have htk : ws.take (i + 1) = ws.take i ++ [n] := by rw [List.take_add_one, hm]; rfl
          refine ⟨true, _, rfl, .inr ⟨rfl, .int n, T3 ++ [.lst ys], ?_, get_new, ?_, ?_, ?_⟩⟩
          · unfold wv
            simp! only []
          · rw [hy, List.length_map]
            have := List.length_take_le' i ws
            omega
          · rw [hy, htk, List.map_append]; rfl
          · rw [set_new])
      ⟨rfl, rfl⟩
    rw [g1, g3, g2, List.length_map, List.take_length, hT4]
  have kk : Kp [b] S T4 := by
    refine (k1.trans hk).trans ?_
    rw [← hT4, ← hT3, ← hT2, ← hT1]
    exact Kp.app.trans (Kp.app.trans (Kp.app.trans Kp.app))
  have hT1l : S3.length < T1.length := get_lt n1
  refine ⟨T1.length, ws, v, T4, ?_, ?_, hws, hwl, ⟨l1, u1⟩, kk, ?_, by omega⟩
  · unfold sv_ at *
    generalize ws.map wv = W at *
    simp! only [m__law_loop, b__law_loop, h1, h3, hT1, d1, n1, hladd, hT2, l5, hsum]
  · rw [← hT4, ← hT3]; exact get_app (get_app n2)
  · rw [← hT4, ← hT3, ← hT2, ← hT1]; exact hb3.app.app.app.app
/-- after how many rounds -/
def rd (v b g : Int) : Nat → Nat → Option Nat
  | 0, _ => none
  | n + 1, i => if aw v b i = g then some i else rd v b g n (i + 1)
theorem rd_some {v b g : Int} : ∀ {n i c : Nat}, rd v b g n i = some c → aw v b c = g ∧ i ≤ c ∧ ∀ j, i ≤ j → j < c → aw v b j ≠ g
  | n + 1, i, c, h => by
    rw [rd] at h
    split at h
    · rename_i e
      cases h
      exact ⟨e, Nat.le_refl _, fun j h1 h2 => by omega⟩
    · rename_i e
      obtain ⟨h1, h2, h3⟩ := rd_some h
      refine ⟨h1, by omega, fun j h4 h5 => ?_⟩
      rcases Nat.eq_or_lt_of_le h4 with z | z
      · rw [← z]; exact e
      · exact h3 j z h5
theorem rd_none {v b g : Int} : ∀ {n i : Nat}, rd v b g n i = none → ∀ j, i ≤ j → j < i + n → aw v b j ≠ g
  | 0, i, _, j, h1, h2 => by omega
  | n + 1, i, h, j, h1, h2 => by
    rw [rd] at h
    split at h
    · cases h
    · rename_i e
      rcases Nat.eq_or_lt_of_le h1 with z | z
      · rw [← z]; exact e
      · exact rd_none h j z (by omega)
def oN : Option Nat → Vl
  | none => .non
  | some c => .int (c : Int)
theorem rounds_loop {φ : Nat} {S : Sto} {v b g : Int} : ∀ (n i : Nat) (e4 : Option Vl), n + i = 17 → (∃ e', forZ (itR 0 17) (gmName 4) (l1__law_rounds φ) n i [some (.int v), some (.int b), some (.int g), some (.int (aw v b i)), e4] S = .ok (.nx e') S ∧ rd v b g n i = none ∧ e'.length = 5) ∨ ∃ c, forZ (itR 0 17) (gmName 4) (l1__law_rounds φ) n i [some (.int v), some (.int b), some (.int g), some (.int (aw v b i)), e4] S = .ok (.rt (.int (c : Nat))) S ∧ rd v b g n i = some c
  | 0, i, e4, h => .inl ⟨_, by
      rw [forZ_eq, nxt_R, List.getElem?_eq_none (by rw [rngL_len]; omega)], rfl, rfl⟩
  | n + 1, i, e4, h => by
    have hx : (rngL 0 17)[i]? = some (.int (0 + (i : Nat))) := by
      unfold rngL
      rw [List.getElem?_map, List.getElem?_range (by omega)]; rfl
    rw [forZ_eq, nxt_R, hx]
    dsimp only
    rw [gmName_e, Out.bindS_ok, Int.zero_add]
    by_cases hg : aw v b i = g
    · have hb : l1__law_rounds φ [some (.int v), some (.int b), some (.int g), some (.int (aw v b i)), some (.int (i : Nat))] S = .ok (.rt (.int (i : Nat))) S := by
        simp! only [l1__law_rounds, hg]
      refine .inr ⟨i, ?_, by rw [rd, if_pos hg]⟩
      show (match l1__law_rounds φ [some (.int v), some (.int b), some (.int g), some (.int (aw v b i)), some (.int (i : Nat))] S with
        | .ok (.nx e) S3 => forZ (itR 0 17) (gmName 4) (l1__law_rounds φ) n (i + 1) e S3
        | .ok (.ct e) S3 => forZ (itR 0 17) (gmName 4) (l1__law_rounds φ) n (i + 1) e S3
        | .ok (.bk e) S3 => .ok (.nx e) S3
        | o => o) = _
      rw [hb]
    · have hb : l1__law_rounds φ [some (.int v), some (.int b), some (.int g), some (.int (aw v b i)), some (.int (i : Nat))] S = .ok (.nx [some (.int v), some (.int b), some (.int g), some (.int (aw v b (i + 1))), some (.int (i : Nat))]) S := by
        have e := aw_step (v := v) (b := b) (j := i)
        simp! only [l1__law_rounds, hg, e]
      have ih := rounds_loop (φ := φ) (S := S) (v := v) (b := b) (g := g) n (i + 1) (some (.int (i : Nat))) (by omega)
      have key : (match l1__law_rounds φ [some (.int v), some (.int b), some (.int g), some (.int (aw v b i)), some (.int (i : Nat))] S with
        | .ok (.nx e) S3 => forZ (itR 0 17) (gmName 4) (l1__law_rounds φ) n (i + 1) e S3
        | .ok (.ct e) S3 => forZ (itR 0 17) (gmName 4) (l1__law_rounds φ) n (i + 1) e S3
        | .ok (.bk e) S3 => .ok (.nx e) S3
        | o => o) = forZ (itR 0 17) (gmName 4) (l1__law_rounds φ) n (i + 1) [some (.int v), some (.int b), some (.int g), some (.int (aw v b (i + 1))), some (.int (i : Nat))] S := by rw [hb]
      rcases ih with ⟨e', h1, h2, h3⟩ | ⟨c, h1, h2⟩
      · exact .inl ⟨e', key.trans h1, by rw [rd, if_neg hg]; exact h2, h3⟩
      · exact .inr ⟨c, key.trans h1, by rw [rd, if_neg hg]; exact h2⟩
theorem rounds_ok {φ : Nat} {S : Sto} {v b g : Int} (hv : 0 ≤ v ∧ v < 16) : m__law_rounds φ [.int v, .int b, .int g] S = .ok (oN (rd v b g 17 0)) S := by
  have h := rounds_loop (φ := φ) (S := S) (v := v) (b := b) (g := g) 17 0 none rfl
  rw [aw_0 hv] at h
  rcases h with ⟨e', h1, h2, h3⟩ | ⟨c, h1, h2⟩
  · rw [h2]
    simp! only [m__law_rounds, b__law_rounds, h1, oN]
  · rw [h2]
    simp! only [m__law_rounds, b__law_rounds, h1, oN]

/-! ### k11: numbers of rounds -/
theorem rb_all : ∀ b : Fin 16, ∀ n : Fin 5, (b.val * 2 ^ n.val) % 16 = 0 → (n.val = 0 ∨ (b.val * 2 ^ (n.val - 1)) % 16 ≠ 0) → ∀ d : Fin 16, 0 < d.val → d.val < 2 ^ n.val → (b.val * d.val) % 16 ≠ 0 := by decide +kernel
theorem dst_of {v b : Int} {n : Nat} (hb : 0 ≤ b ∧ b < 16) (hn : n ≤ 4) (h1 : (b * 2 ^ n) % 16 = 0) (h2 : n = 0 ∨ (b * 2 ^ (n - 1)) % 16 ≠ 0) : Dst v b (2 ^ n) ∧ 2 ^ n ≤ 16 := by
  obtain ⟨m, rfl⟩ : ∃ m : Nat, b = (m : Int) := ⟨b.toNat, by omega⟩
  have hm : m < 16 := by omega
  have h1' : (m * 2 ^ n) % 16 = 0 := by
    have : ((m * 2 ^ n % 16 : Nat) : Int) = 0 := by push_cast; exact h1
    omega
  have h2' : n = 0 ∨ (m * 2 ^ (n - 1)) % 16 ≠ 0 := by
    rcases h2 with h2 | h2
    · exact .inl h2
    · refine .inr fun z => h2 ?_
      have : ((m * 2 ^ (n - 1) % 16 : Nat) : Int) = 0 := by rw [z]; rfl
      rw [← this]; push_cast; rfl
  have hpow : 2 ^ n ≤ 16 := by
    have : 2 ^ n ≤ 2 ^ 4 := Nat.pow_le_pow_right (by omega) hn
    omega
  have hall := rb_all ⟨m, hm⟩ ⟨n, by omega⟩ h1' h2'
  refine ⟨⟨fun i j hij hj e => ?_, ?_, Nat.two_pow_pos n⟩, hpow⟩
  · unfold aw at e
    have hd := hall ⟨j - i, by omega⟩ (by show 0 < j - i; omega) (by show j - i < 2 ^ n; omega)
    apply hd
    show m * (j - i) % 16 = 0
    have e2 : ((m : Int) * ((j - i : Nat) : Int)) % 16 = 0 := by
      have e3 := Int.emod_eq_emod_iff_emod_sub_eq_zero.mp e.symm
      rw [show (v + (m : Int) * (j : Int) - (v + (m : Int) * (i : Int))) = (m : Int) * ((j - i : Nat) : Int) by
        rw [Int.ofNat_sub (by omega), Int.mul_sub]; omega] at e3
      exact e3
    have : ((m * (j - i) % 16 : Nat) : Int) = 0 := by push_cast [Int.ofNat_sub (Nat.le_of_lt hij)]; rw [Int.ofNat_sub (Nat.le_of_lt hij)] at e2; exact e2
    omega
  · unfold aw
    rw [show v + (m : Int) * ((0 : Nat) : Int) = v by simp]
    have : v + (m : Int) * ((2 ^ n : Nat) : Int) = v + (m : Int) * 2 ^ n := by push_cast; rfl
    rw [this, Int.add_emod, h1, Int.add_zero, Int.emod_emod]
theorem aw_per {v b : Int} {R : Nat} (D : Dst v b R) (j : Nat) : aw v b (j + R) = aw v b j := by
  have h := D.eq
  unfold aw at h ⊢
  rw [show v + b * ((0 : Nat) : Int) = v by simp] at h
  have h2 := Int.emod_eq_emod_iff_emod_sub_eq_zero.mp h
  rw [show v + b * (R : Int) - v = b * (R : Int) by omega] at h2
  rw [show v + b * ((j + R : Nat) : Int) = (v + b * (j : Int)) + b * (R : Int) by push_cast; rw [Int.mul_add]; omega, Int.add_emod, h2, Int.add_zero, Int.emod_emod]
theorem rd_lt {v b g : Int} {R n c : Nat} (D : Dst v b R) (h : rd v b g n 0 = some c) : c < R := by
  obtain ⟨h1, h2, h3⟩ := rd_some h
  rcases Nat.lt_or_ge c R with z | z
  · exact z
  · exfalso
    have hp := D.pos
    refine h3 (c - R) (Nat.zero_le _) (by omega) ?_
    rw [← aw_per D, Nat.sub_add_cancel z]
    exact h1
theorem ins_all {v b pos : Int} {s : Di} {R : Nat} (D : Dst v b R) (hs : s ≠ .at_) : ∀ J, J ≤ R → (List.range J).foldl (fun x j => insK x (plc s pos (aw v b j))) [] = (List.range J).map fun j => plc s pos (aw v b j)
  | 0, _ => rfl
  | J + 1, h => by
    rw [List.range_succ, List.foldl_append, ins_all D hs J (by omega), List.map_append]
    show insK _ _ = _
    unfold insK
    rw [if_neg]
    · rfl
    · intro hm
      obtain ⟨j, hj, e⟩ := List.mem_map.mp hm
      rw [List.mem_range] at hj
      have : aw v b j = aw v b J := by
        cases s with
        | pl => exact Int.add_left_cancel (show pos + _ = pos + _ from e)
        | mi => have e : pos - aw v b j = pos - aw v b J := e; omega
        | at_ => exact absurd rfl hs
      exact D.ne j J hj (by omega) this
theorem halve_ok {φ : Nat} {S : Sto} {ns : List Int} {k la bg : Nat} {ws : List Int} {v b p pos : Int} {sg : Str} {inn : Vl} {e12 e13 e14 e15 e16 e17 e18 e19 : Option Vl} (hφ : 10 < φ) (hb : 0 ≤ b ∧ b < 16) : ∃ R : Nat, whileZ (t2_law φ) (l2_law φ) φ [some (.scr ns), some (.int (k : Int)), some (.ref bg), some (.ref la), some (.int (ws.sum + 1)), some (.int v), some (.int b), some (.int p), some (.int pos), some (.str sg), some inn, some (.int 16), e12, e13, e14, e15, e16, e17, e18, e19, none, none] S = .ok (.nx [some (.scr ns), some (.int (k : Int)), some (.ref bg), some (.ref la), some (.int (ws.sum + 1)), some (.int v), some (.int b), some (.int p), some (.int pos), some (.str sg), some inn, some (.int (R : Int)), e12, e13, e14, e15, e16, e17, e18, e19, none, none]) S ∧ Dst v b R ∧ R ≤ 16 := by
  have key : ∀ n : Nat, n ≤ 4 → (∃ S1, t2_law φ [some (.scr ns), some (.int (k : Int)), some (.ref bg), some (.ref la), some (.int (ws.sum + 1)), some (.int v), some (.int b), some (.int p), some (.int pos), some (.str sg), some inn, some (.int (2 ^ n)), e12, e13, e14, e15, e16, e17, e18, e19, none, none] S = .ok false S1 ∧ S1 = S ∧ (n = 0 ∨ (b * 2 ^ (n - 1)) % 16 ≠ 0)) ∨ (∃ m, n = m + 1 ∧ t2_law φ [some (.scr ns), some (.int (k : Int)), some (.ref bg), some (.ref la), some (.int (ws.sum + 1)), some (.int v), some (.int b), some (.int p), some (.int pos), some (.str sg), some inn, some (.int (2 ^ n)), e12, e13, e14, e15, e16, e17, e18, e19, none, none] S = .ok true S ∧ l2_law φ [some (.scr ns), some (.int (k : Int)), some (.ref bg), some (.ref la), some (.int (ws.sum + 1)), some (.int v), some (.int b), some (.int p), some (.int pos), some (.str sg), some inn, some (.int (2 ^ n)), e12, e13, e14, e15, e16, e17, e18, e19, none, none] S = .ok (.nx [some (.scr ns), some (.int (k : Int)), some (.ref bg), some (.ref la), some (.int (ws.sum + 1)), some (.int v), some (.int b), some (.int p), some (.int pos), some (.str sg), some inn, some (.int (2 ^ m)), e12, e13, e14, e15, e16, e17, e18, e19, none, none]) S ∧ (b * 2 ^ m) % 16 = 0) := by
    intro n hn
    rcases (show n = 0 ∨ n = 1 ∨ n = 2 ∨ n = 3 ∨ n = 4 by omega) with rfl | rfl | rfl | rfl | rfl
    · refine .inl ⟨S, ?_, rfl, .inl rfl⟩
      simp! only [t2_law, Int.reducePow]
    · by_cases h : (b * 2 ^ 0) % 16 = 0
      · refine .inr ⟨0, rfl, ?_, ?_, h⟩
        · have h : (b * 1) % 16 = 0 := h
          simp! only [t2_law, Int.reducePow, Int.reduceDiv, h]
        · simp! only [l2_law, Int.reducePow, Int.reduceDiv]
      · refine .inl ⟨S, ?_, rfl, .inr h⟩
        have h : ¬ (b * 1) % 16 = 0 := h
        simp! only [t2_law, Int.reducePow, Int.reduceDiv, h]
    · by_cases h : (b * 2 ^ 1) % 16 = 0
      · refine .inr ⟨1, rfl, ?_, ?_, h⟩
        · have h : (b * 2) % 16 = 0 := h
          simp! only [t2_law, Int.reducePow, Int.reduceDiv, h]
        · simp! only [l2_law, Int.reducePow, Int.reduceDiv]
      · refine .inl ⟨S, ?_, rfl, .inr h⟩
        have h : ¬ (b * 2) % 16 = 0 := h
        simp! only [t2_law, Int.reducePow, Int.reduceDiv, h]
    · by_cases h : (b * 2 ^ 2) % 16 = 0
      · refine .inr ⟨2, rfl, ?_, ?_, h⟩
        · have h : (b * 4) % 16 = 0 := h
          simp! only [t2_law, Int.reducePow, Int.reduceDiv, h]
        · simp! only [l2_law, Int.reducePow, Int.reduceDiv]
      · refine .inl ⟨S, ?_, rfl, .inr h⟩
        have h : ¬ (b * 4) % 16 = 0 := h
        simp! only [t2_law, Int.reducePow, Int.reduceDiv, h]
    · by_cases h : (b * 2 ^ 3) % 16 = 0
      · refine .inr ⟨3, rfl, ?_, ?_, h⟩
        · have h : (b * 8) % 16 = 0 := h
          simp! only [t2_law, Int.reducePow, Int.reduceDiv, h]
        · simp! only [l2_law, Int.reducePow, Int.reduceDiv]
      · refine .inl ⟨S, ?_, rfl, .inr h⟩
        have h : ¬ (b * 8) % 16 = 0 := h
        simp! only [t2_law, Int.reducePow, Int.reduceDiv, h]
  obtain ⟨e', S', h, n, hn, he, hS, h1, h2⟩ := whileZ_inv (t := t2_law φ) (f := l2_law φ) (fun n env S' => n ≤ 4 ∧ env = [some (.scr ns), some (.int (k : Int)), some (.ref bg), some (.ref la), some (.int (ws.sum + 1)), some (.int v), some (.int b), some (.int p), some (.int pos), some (.str sg), some inn, some (.int (2 ^ n)), e12, e13, e14, e15, e16, e17, e18, e19, none, none] ∧ S' = S ∧ (b * 2 ^ n) % 16 = 0) (fun env S' => ∃ n, n ≤ 4 ∧ env = [some (.scr ns), some (.int (k : Int)), some (.ref bg), some (.ref la), some (.int (ws.sum + 1)), some (.int v), some (.int b), some (.int p), some (.int pos), some (.str sg), some inn, some (.int (2 ^ n)), e12, e13, e14, e15, e16, e17, e18, e19, none, none] ∧ S' = S ∧ (b * 2 ^ n) % 16 = 0 ∧ (n = 0 ∨ (b * 2 ^ (n - 1)) % 16 ≠ 0)) (fun n env S' ⟨h1, h2, h3, h4⟩ => by
      subst h2
      subst h3
      rcases key n h1 with ⟨S1, g1, g2, g3⟩ | ⟨m, rfl, g1, g2, g3⟩
      · exact .inl ⟨S1, g1, n, h1, rfl, g2, h4, g3⟩
      · exact .inr (.inl ⟨_, m, _, _, g1, .inl g2, by omega, by omega, rfl, rfl, g3⟩)) φ 4 [some (.scr ns), some (.int (k : Int)), some (.ref bg), some (.ref la), some (.int (ws.sum + 1)), some (.int v), some (.int b), some (.int p), some (.int pos), some (.str sg), some inn, some (.int 16), e12, e13, e14, e15, e16, e17, e18, e19, none, none] S (by omega) ⟨Nat.le_refl _, rfl, rfl, by omega⟩
  subst he
  subst hS
  obtain ⟨D, hR⟩ := dst_of (v := v) hb hn h1 h2
  refine ⟨2 ^ n, ?_, D, hR⟩
  rw [h, show ((2 ^ n : Nat) : Int) = 2 ^ n by push_cast; rfl]
theorem vals_ok {φ : Nat} {S : Sto} {ns : List Int} {k la R bg : Nat} {ws : List Int} {v b p pos : Int} {sg : Str} {inn : Vl} {e12 e13 e14 e15 e16 e17 e18 e19 : Option Vl} (hb : 0 ≤ b ∧ b < 16) (hR : R ≤ 16) :
    xLc (iRange1 (aCons (xVar 11) aNil)) (gmName 20) yYes (xOp vMod (xOp vAdd (xVar 5) (xOp vMul (xVar 6) (xVar 20))) (xC (.int 16))) [20] [some (.scr ns), some (.int (k : Int)), some (.ref bg), some (.ref la), some (.int (ws.sum + 1)), some (.int v), some (.int b), some (.int p), some (.int pos), some (.str sg), some inn, some (.int (R : Int)), e12, e13, e14, e15, e16, e17, e18, e19, none, none] S = .ok (.ref S.length) (S ++ [.lst (((List.range R).map (aw v b)).map Vl.int)]) := by
  have hr : -4611686018427387904 ≤ (R : Int) ∧ (R : Int) < 4611686018427387904 := by omega
  have hbm : -18446744073709551616 < b ∧ b < 18446744073709551616 := by omega
  obtain ⟨ys, S', h1, h2, h3⟩ := lc_inv (I := itR 0 R) (it := iRange1 (aCons (xVar 11) aNil)) (k := 20) (t := yYes) (e := (xOp vMod (xOp vAdd (xVar 5) (xOp vMul (xVar 6) (xVar 20))) (xC (.int 16)))) (vs := [20]) (env := [some (.scr ns), some (.int (k : Int)), some (.ref bg), some (.ref la), some (.int (ws.sum + 1)), some (.int v), some (.int b), some (.int p), some (.int pos), some (.str sg), some inn, some (.int (R : Int)), e12, e13, e14, e15, e16, e17, e18, e19, none, none]) (env' := [some (.scr ns), some (.int (k : Int)), some (.ref bg), some (.ref la), some (.int (ws.sum + 1)), some (.int v), some (.int b), some (.int p), some (.int pos), some (.str sg), some inn, some (.int (R : Int)), e12, e13, e14, e15, e16, e17, e18, e19, none, none]) (S := S) (S1 := S) (rngL 0 R) (fun i ys S' => ys = ((List.range i).map (aw v b)).map Vl.int ∧ S' = S ++ [.lst ys]) (by
      have ht : ((R : Int)).toNat = R := Int.toNat_natCast R
      simp! only [hr, ht]) rfl (by rw [rngL_len]; rfl) (fun _ _ _ _ => nxt_R)
    (fun i x ys S' hx ⟨hy, h⟩ => by
      subst h
      obtain ⟨hi, rfl⟩ := rngL_get hx
      refine ⟨true, _, rfl, .inr ⟨rfl, .int (aw v b i), S ++ [.lst ys], ?_, get_new, ?_, ?_, ?_⟩⟩
      · have e : (v + b * (0 + (i : Int))) % 16 = aw v b i := by rw [Int.zero_add]; rfl
        simp! only [hbm, e]
      · rw [hy, List.length_map, List.length_map, List.length_range]; omega
      · rw [hy, List.range_succ, List.map_append, List.map_append]; rfl
      · rw [set_new])
    ⟨rfl, rfl⟩
  rw [h1, h3, h2, rngL_len]
theorem askp_ok {φ lv : Nat} {S : Sto} {ns : List Int} {k la R bg : Nat} {ws : List Int} {v b p pos : Int} {inn : Vl} {e13 e14 e15 e16 e17 e18 e19 : Option Vl} (hR : R ≤ 16) (hv : S[lv]? = some (.lst (((List.range R).map (aw v b)).map Vl.int))) :
    ∃ S', xLc (iAny (xVar 12)) (gmName 21) yYes (xOp vIx (xLst (aCons (xOp vSub (xVar 8) (xVar 21)) (aCons (xOp vAdd (xVar 8) (xVar 21)) aNil))) (xCB vInt (aCons (xOp vEq (xVar 9) (xC (.str "+"))) aNil))) [21] [some (.scr ns), some (.int (k : Int)), some (.ref bg), some (.ref la), some (.int (ws.sum + 1)), some (.int v), some (.int b), some (.int p), some (.int pos), some (.str "+"), some inn, some (.int (R : Int)), some (.ref lv), e13, e14, e15, e16, e17, e18, e19, none, none] S = .ok (.ref S.length) S' ∧ vSorted [.ref S.length] S' = .ok (.ref S'.length) (S' ++ [.lst ((isort ((List.range R).map fun j => plc .pl pos (aw v b j))).map Vl.int)]) ∧ Kp [] S S' := by
  obtain ⟨ys, S', h1, h2, h3, h4⟩ := lc_inv (I := itL lv (((List.range R).map (aw v b)).map Vl.int).length) (it := iAny (xVar 12)) (k := 21) (t := yYes) (e := (xOp vIx (xLst (aCons (xOp vSub (xVar 8) (xVar 21)) (aCons (xOp vAdd (xVar 8) (xVar 21)) aNil))) (xCB vInt (aCons (xOp vEq (xVar 9) (xC (.str "+"))) aNil)))) (vs := [21]) (env := [some (.scr ns), some (.int (k : Int)), some (.ref bg), some (.ref la), some (.int (ws.sum + 1)), some (.int v), some (.int b), some (.int p), some (.int pos), some (.str "+"), some inn, some (.int (R : Int)), some (.ref lv), e13, e14, e15, e16, e17, e18, e19, none, none]) (env' := [some (.scr ns), some (.int (k : Int)), some (.ref bg), some (.ref la), some (.int (ws.sum + 1)), some (.int v), some (.int b), some (.int p), some (.int pos), some (.str "+"), some inn, some (.int (R : Int)), some (.ref lv), e13, e14, e15, e16, e17, e18, e19, none, none]) (S := S) (S1 := S) (((List.range R).map (aw v b)).map Vl.int) (fun i ys S' => ys = ((List.range i).map fun j => plc .pl pos (aw v b j)).map Vl.int ∧ S'[S.length]? = some (.lst ys) ∧ Kp [] S S')
    (by simp! only [hv]) rfl rfl (fun i ys S' ⟨_, _, hk⟩ => nxt_L (hk.get hv List.not_mem_nil))
    (fun i x ys S' hx ⟨hy, hD, hk⟩ => by
      rw [List.getElem?_map, List.getElem?_map] at hx
      have hi : i < R := by
        rcases Nat.lt_or_ge i R with z | z
        · exact z
        · rw [List.getElem?_eq_none (by rw [List.length_range]; exact z)] at hx; cases hx
      rw [List.getElem?_range hi] at hx
      cases hx
      have n1 := get_new (S := S') (o := Ob.lst [.int (pos - aw v b i), .int (pos + aw v b i)])
      have hD' := get_app (T := [Ob.lst [.int (pos - aw v b i), .int (pos + aw v b i)]]) hD
      have hlt := hk.len
      refine ⟨true, _, rfl, .inr ⟨rfl, .int (plc .pl pos (aw v b i)), S' ++ [Ob.lst [.int (pos - aw v b i), .int (pos + aw v b i)]], ?_, hD', ?_, ?_, get_set hD', (hk.trans Kp.app).late (Kp.set (i := S.length) (List.mem_singleton.mpr rfl)) (fun z hz => by rw [List.mem_singleton.mp hz]; right; omega)⟩⟩
      · show _ = Out.ok (Vl.int (pos + aw v b i)) _
        have hd : decide (("+" : Str) = "+") = true := by decide +kernel
        generalize aw v b i = w at *
        simp! only [vEq_str, hd, n1]
      · rw [hy, List.length_map, List.length_map, List.length_range]; omega
      · rw [hy, List.range_succ, List.map_append, List.map_append]; rfl)
    ⟨rfl, get_new, Kp.app⟩
  rw [List.length_map, List.length_map, List.length_range] at h2
  rw [h2] at h3
  refine ⟨S', h1, ?_, h4⟩
  have hso : vSorted [.ref S.length] S' = .ok (.ref S'.length) (S' ++ [.lst ((isort ((List.range R).map fun j => plc .pl pos (aw v b j))).map Vl.int)]) := by
    unfold vSorted
    dsimp only
    rw [h3]
    dsimp only
    rw [toInts_m]
  exact hso
theorem askm_ok {φ lv : Nat} {S : Sto} {ns : List Int} {k la R bg : Nat} {ws : List Int} {v b p pos : Int} {inn : Vl} {e13 e14 e15 e16 e17 e18 e19 : Option Vl} (hR : R ≤ 16) (hv : S[lv]? = some (.lst (((List.range R).map (aw v b)).map Vl.int))) :
    ∃ S', xLc (iAny (xVar 12)) (gmName 21) yYes (xOp vIx (xLst (aCons (xOp vSub (xVar 8) (xVar 21)) (aCons (xOp vAdd (xVar 8) (xVar 21)) aNil))) (xCB vInt (aCons (xOp vEq (xVar 9) (xC (.str "+"))) aNil))) [21] [some (.scr ns), some (.int (k : Int)), some (.ref bg), some (.ref la), some (.int (ws.sum + 1)), some (.int v), some (.int b), some (.int p), some (.int pos), some (.str "-"), some inn, some (.int (R : Int)), some (.ref lv), e13, e14, e15, e16, e17, e18, e19, none, none] S = .ok (.ref S.length) S' ∧ vSorted [.ref S.length] S' = .ok (.ref S'.length) (S' ++ [.lst ((isort ((List.range R).map fun j => plc .mi pos (aw v b j))).map Vl.int)]) ∧ Kp [] S S' := by
  obtain ⟨ys, S', h1, h2, h3, h4⟩ := lc_inv (I := itL lv (((List.range R).map (aw v b)).map Vl.int).length) (it := iAny (xVar 12)) (k := 21) (t := yYes) (e := (xOp vIx (xLst (aCons (xOp vSub (xVar 8) (xVar 21)) (aCons (xOp vAdd (xVar 8) (xVar 21)) aNil))) (xCB vInt (aCons (xOp vEq (xVar 9) (xC (.str "+"))) aNil)))) (vs := [21]) (env := [some (.scr ns), some (.int (k : Int)), some (.ref bg), some (.ref la), some (.int (ws.sum + 1)), some (.int v), some (.int b), some (.int p), some (.int pos), some (.str "-"), some inn, some (.int (R : Int)), some (.ref lv), e13, e14, e15, e16, e17, e18, e19, none, none]) (env' := [some (.scr ns), some (.int (k : Int)), some (.ref bg), some (.ref la), some (.int (ws.sum + 1)), some (.int v), some (.int b), some (.int p), some (.int pos), some (.str "-"), some inn, some (.int (R : Int)), some (.ref lv), e13, e14, e15, e16, e17, e18, e19, none, none]) (S := S) (S1 := S) (((List.range R).map (aw v b)).map Vl.int) (fun i ys S' => ys = ((List.range i).map fun j => plc .mi pos (aw v b j)).map Vl.int ∧ S'[S.length]? = some (.lst ys) ∧ Kp [] S S')
    (by simp! only [hv]) rfl rfl (fun i ys S' ⟨_, _, hk⟩ => nxt_L (hk.get hv List.not_mem_nil))
    (fun i x ys S' hx ⟨hy, hD, hk⟩ => by
      rw [List.getElem?_map, List.getElem?_map] at hx
      have hi : i < R := by
        rcases Nat.lt_or_ge i R with z | z
        · exact z
        · rw [List.getElem?_eq_none (by rw [List.length_range]; exact z)] at hx; cases hx
      rw [List.getElem?_range hi] at hx
      cases hx
      have n1 := get_new (S := S') (o := Ob.lst [.int (pos - aw v b i), .int (pos + aw v b i)])
      have hD' := get_app (T := [Ob.lst [.int (pos - aw v b i), .int (pos + aw v b i)]]) hD
      have hlt := hk.len
      refine ⟨true, _, rfl, .inr ⟨rfl, .int (plc .mi pos (aw v b i)), S' ++ [Ob.lst [.int (pos - aw v b i), .int (pos + aw v b i)]], ?_, hD', ?_, ?_, get_set hD', (hk.trans Kp.app).late (Kp.set (i := S.length) (List.mem_singleton.mpr rfl)) (fun z hz => by rw [List.mem_singleton.mp hz]; right; omega)⟩⟩
      · show _ = Out.ok (Vl.int (pos - aw v b i)) _
        have hd : decide (("-" : Str) = "+") = false := by decide +kernel
        generalize aw v b i = w at *
        simp! only [vEq_str, hd, n1]
      · rw [hy, List.length_map, List.length_map, List.length_range]; omega
      · rw [hy, List.range_succ, List.map_append, List.map_append]; rfl)
    ⟨rfl, get_new, Kp.app⟩
  rw [List.length_map, List.length_map, List.length_range] at h2
  rw [h2] at h3
  refine ⟨S', h1, ?_, h4⟩
  have hso : vSorted [.ref S.length] S' = .ok (.ref S'.length) (S' ++ [.lst ((isort ((List.range R).map fun j => plc .mi pos (aw v b j))).map Vl.int)]) := by
    unfold vSorted
    dsimp only
    rw [h3]
    dsimp only
    rw [toInts_m]
  exact hso
theorem ask_ok {φ lv : Nat} {S : Sto} {ns : List Int} {k la R bg : Nat} {ws : List Int} {v b p pos : Int} {inn : Vl} {s : Di} {e13 e14 e15 e16 e17 e18 e19 : Option Vl} (hs : s ≠ .at_) (hR : R ≤ 16) (hv : S[lv]? = some (.lst (((List.range R).map (aw v b)).map Vl.int))) :
    ∃ S', xLc (iAny (xVar 12)) (gmName 21) yYes (xOp vIx (xLst (aCons (xOp vSub (xVar 8) (xVar 21)) (aCons (xOp vAdd (xVar 8) (xVar 21)) aNil))) (xCB vInt (aCons (xOp vEq (xVar 9) (xC (.str "+"))) aNil))) [21] [some (.scr ns), some (.int (k : Int)), some (.ref bg), some (.ref la), some (.int (ws.sum + 1)), some (.int v), some (.int b), some (.int p), some (.int pos), some (.str (sD s)), some inn, some (.int (R : Int)), some (.ref lv), e13, e14, e15, e16, e17, e18, e19, none, none] S = .ok (.ref S.length) S' ∧ vSorted [.ref S.length] S' = .ok (.ref S'.length) (S' ++ [.lst ((isort ((List.range R).map fun j => plc s pos (aw v b j))).map Vl.int)]) ∧ Kp [] S S' := by
  cases s with
  | pl => exact askp_ok (φ := φ) hR hv
  | mi => exact askm_ok (φ := φ) hR hv
  | at_ => exact absurd rfl hs

/-! ### k11: a turn, the law -/
theorem repV_n : repV none = .non := rfl
theorem repV_s {l : Int} : repV (some l) = .int l := rfl
theorem ix_pm0 {S : Sto} : vIx (.str "+-") (.int 0) S = .ok (.str "+") S := by
  rw [vIx, if_pos (by decide +kernel)]; rfl
theorem ix_pm1 {S : Sto} : vIx (.str "+-") (.int 1) S = .ok (.str "-") S := by
  rw [vIx, if_pos (by decide +kernel)]; rfl
theorem tvP2 {col : Bool} {bd : List Stm} : tv (dP col bd) = .tup [.str (sK col), .tup ((dB bd).map tv)] := by
  unfold dP
  rw [tv_tuple, List.map_cons, List.map_cons, List.map_nil, tv_str, tv_tuple]
theorem tvW {ws : List Int} : (ws.map Stm.wait).map (fun s => tv (dS s)) = ws.map wv := by
  rw [List.map_map]
  apply List.map_congr_left
  intro n _
  show tv (dS (.wait n)) = _
  rw [dS, tv_tuple, List.map_cons, List.map_cons, List.map_nil, tv_str, tv_int]; rfl
def innV (s : Di) (p b : Int) : Vl := .tup [.tup [.str "ask", .str (sD s), .str "a", .str "b"], .tup [.str "wait", .int p], .tup [.str "add", .str "a", .int b]]
def wh1 (s : Di) (p b : Int) : Vl := .tup [.str "while", .tup [.str "b", .str "==", .int 0], innV s p b]
def wh2 (p b g : Int) : Vl := .tup [.str "while", .tup [.str "a", .str "!=", .int g], .tup [.tup [.str "wait", .int p], .tup [.str "add", .str "a", .int b]]]
theorem tv1 {ws : List Int} {v b p : Int} {s : Di} : tv (dP false (body1 ws v b p s)) = .tup [.str "teller", .tup (ws.map wv ++ [sv_ v] ++ [wh1 s p b])] := by
  unfold body1
  rw [tvP2, dB_map, List.map_append, List.map_append, List.map_map, show (tv ∘ dS) = (fun s => tv (dS s)) from rfl, tvW, List.append_assoc]
  simp only [List.map_cons, List.map_nil, dS, dB, dC, dT, tv_tuple, List.map_cons, List.map_nil, tv_str, tv_int]
  rfl
theorem tv2 {ws : List Int} {v b p g : Int} : tv (dP false (body2 ws v b p g)) = .tup [.str "teller", .tup (ws.map wv ++ [sv_ v] ++ [wh2 p b g, .tup [.str "answer", .int 1]])] := by
  unfold body2
  rw [tvP2, dB_map, List.map_append, List.map_append, List.map_map, show (tv ∘ dS) = (fun s => tv (dS s)) from rfl, tvW, List.append_assoc]
  simp only [List.map_cons, List.map_nil, dS, dB, dC, dT, tv_tuple, List.map_cons, List.map_nil, tv_str, tv_int]
  rfl
theorem okW : ∀ {ws : List Int}, (∀ n, n ∈ ws → 1 ≤ n ∧ n ≤ 10 ^ 30) → okB false 4 (ws.map Stm.wait)
  | [], _ => by rw [List.map_nil, okB]; trivial
  | w :: ws, h => by
    rw [List.map_cons, okB, okS]
    exact ⟨h w (List.mem_cons_self ..), okW fun n hn => h n (List.mem_cons_of_mem _ hn)⟩
theorem szW : ∀ {ws : List Int}, szB (ws.map Stm.wait) = ws.length
  | [] => by rw [List.map_nil, szB]; rfl
  | w :: ws => by rw [List.map_cons, szB, szW, List.length_cons]; show 1 + _ = _; omega
theorem ok1 {ws : List Int} {v b p : Int} {s : Di} (hw : ∀ n, n ∈ ws → 1 ≤ n ∧ n ≤ 10 ^ 30) (hv : 0 ≤ v ∧ v < 16) (hb : 0 ≤ b ∧ b < 16) (hp : 1 ≤ p ∧ p ≤ 10 ^ 30) : okB false 4 (body1 ws v b p s) := by
  refine okB_append (okW hw) ?_
  simp only [okB, okS, okT]
  exact ⟨⟨hv.1, by omega⟩, ⟨⟨by omega, by omega⟩, ⟨trivial, trivial⟩, hp, ⟨hb.1, by omega⟩, trivial⟩, trivial⟩
theorem ok2_ {ws : List Int} {v b p g : Int} (hw : ∀ n, n ∈ ws → 1 ≤ n ∧ n ≤ 10 ^ 30) (hv : 0 ≤ v ∧ v < 16) (hb : 0 ≤ b ∧ b < 16) (hp : 1 ≤ p ∧ p ≤ 10 ^ 30) (hg : 0 ≤ g ∧ g < 16) : okB false 4 (body2 ws v b p g) := by
  refine okB_append (okW hw) ?_
  simp only [okB, okS, okT]
  exact ⟨⟨hv.1, by omega⟩, ⟨⟨hg.1, by omega⟩, hp, ⟨hb.1, by omega⟩, trivial⟩, ⟨⟨by omega, by omega⟩, trivial⟩, trivial⟩
theorem sz1 {ws : List Int} {v b p : Int} {s : Di} (h : ws.length ≤ 4) : szB (body1 ws v b p s) ≤ 24 := by
  unfold body1
  rw [szB_append, szW]
  simp only [szB, szS]
  omega
theorem sz2_ {ws : List Int} {v b p g : Int} (h : ws.length ≤ 4) : szB (body2 ws v b p g) ≤ 24 := by
  unfold body2
  rw [szB_append, szW]
  simp only [szB, szS]
  omega
theorem turn_ok {φ : Nat} {S : Sto} {ns : List Int} {k : Nat} {e2 e3 e4 e5 e6 e7 e8 e9 e10 e11 e12 e13 e14 e15 e16 e17 e18 e19 : Option Vl} (hφ : 20000 < φ) (hk : k ≤ 1000) : ∃ (e2' e3' e4' e5' e6' e7' e8' e9' e10' e11' e12' e13' e14' e15' e16' e17' e18' e19' : Option Vl) (S' : Sto), l1_law φ [some (.scr ns), some (.int (k : Int)), e2, e3, e4, e5, e6, e7, e8, e9, e10, e11, e12, e13, e14, e15, e16, e17, e18, e19, none, none] S = .ok (.nx [some (.scr ns), some (.int (k : Int)), e2', e3', e4', e5', e6', e7', e8', e9', e10', e11', e12', e13', e14', e15', e16', e17', e18', e19', none, none]) S' := by
  obtain ⟨x, y, h1⟩ := bag_ok (φ := φ) (S := S) (ns := ns) hk
  generalize hS1 : S ++ [Ob.lst [.int x, .int y]] = S1 at h1
  have b1 : Bag S1 S.length := by rw [← hS1]; exact ⟨x, y, get_new⟩
  have hlb := b1.lt
  obtain ⟨la, ws, v, S2, h2, g2, hws, hwl, hv, k2, b2, hla⟩ := loop_ok (φ := φ) (by omega) b1
  obtain ⟨b, S3, h3, k3, b3, hb0, hb1⟩ := draw_ok (φ := φ) (m := 16) b2 (by omega) (by omega)
  obtain ⟨p, S4, h4, k4, b4, hp0, hp1⟩ := steps_ok (φ := φ) (by omega) b3
  obtain ⟨d, S5, h5, k5, b5, hd0, hd1⟩ := large_ok (φ := φ) (m := 999999999999999999999999999999999999999999999999999999999968) (by omega) b4 (by omega) (by omega)
  obtain ⟨q, S6, h6, k6, b6, hq0, hq1⟩ := draw_ok (φ := φ) (m := 2) b5 (by omega) (by omega)
  have g6 := k6.get (k5.get (k4.get (k3.get g2 (ni1 hla)) (ni1 hla)) (ni1 hla)) (ni1 hla)
  generalize hpos : 16 + d = pos
  have hpos16 : 16 ≤ pos := by omega
  obtain ⟨s, hs, hsg⟩ : ∃ s : Di, s ≠ .at_ ∧ vIx (.str "+-") (.int q) S6 = .ok (.str (sD s)) S6 := by
    rcases (show q = 0 ∨ q = 1 by omega) with rfl | rfl
    · exact ⟨.pl, (fun z => nomatch z), ix_pm0⟩
    · exact ⟨.mi, (fun z => nomatch z), ix_pm1⟩
  generalize hinn : innV s p b = inn
  obtain ⟨R, hw, D, hR⟩ := halve_ok (φ := φ) (S := S6) (ns := ns) (k := k) (bg := S.length) (la := la) (ws := ws) (v := v) (b := b) (p := p) (pos := pos) (sg := sD s) (inn := inn) (e12 := e12) (e13 := e13) (e14 := e14) (e15 := e15) (e16 := e16) (e17 := e17) (e18 := e18) (e19 := e19) (by omega) ⟨hb0, hb1⟩
  have hva := vals_ok (φ := φ) (S := S6) (ns := ns) (k := k) (bg := S.length) (la := la) (R := R) (ws := ws) (v := v) (b := b) (p := p) (pos := pos) (sg := sD s) (inn := inn) (e12 := e12) (e13 := e13) (e14 := e14) (e15 := e15) (e16 := e16) (e17 := e17) (e18 := e18) (e19 := e19) ⟨hb0, hb1⟩ hR
  generalize hS7 : S6 ++ [Ob.lst (((List.range R).map (aw v b)).map Vl.int)] = S7 at hva
  have n7 : S7[S6.length]? = some (.lst (((List.range R).map (aw v b)).map Vl.int)) := by rw [← hS7]; exact get_new
  obtain ⟨S8, ha, hso, k8⟩ := ask_ok (φ := φ) (lv := S6.length) (S := S7) (ns := ns) (k := k) (bg := S.length) (la := la) (R := R) (ws := ws) (v := v) (b := b) (p := p) (pos := pos) (inn := inn) (s := s) (e13 := e13) (e14 := e14) (e15 := e15) (e16 := e16) (e17 := e17) (e18 := e18) (e19 := e19) hs hR n7
  have hr1 := run1 (ws := ws) (b := b) (p := p) (s := s) hv hpos16 D hR hs
  rw [ins_all D hs R (Nat.le_refl _)] at hr1
  have hCk := ok1 (s := s) hws hv ⟨hb0, hb1⟩ ⟨hp0, hp1⟩
  have hask48 := run_ask (pos := pos) (kn := []) (code := cB 0 (body1 ws v b p s)) (lim := none) (fun i hi => (cB_ok hCk i hi).mono (by omega))
  rw [hr1] at hask48
  generalize (List.range R).map (fun j => plc s pos (aw v b j)) = pl at *
  generalize hS9 : S8 ++ [Ob.lst ((isort pl).map Vl.int)] = S9 at hso
  have n9 : S9[S8.length]? = some (.lst ((isort pl).map Vl.int)) := by rw [← hS9]; exact get_new
  have k69 : Kp [] S6 S9 := by
    rw [← hS9]
    refine Kp.trans ?_ (k8.trans Kp.app)
    rw [← hS7]; exact Kp.app
  have g9 := k69.get g6 List.not_mem_nil
  have b9 := b6.kp k69 List.not_mem_nil
  obtain ⟨q1, a1, S10, h10, R10, k10, la10⟩ := run_w (φ := φ) (pos := pos) (ms := []) (lim := none) (S := S9 ++ [Ob.lst []]) hφ hCk (sz1 hwl) (by decide) get_new (fun l e => by cases e)
  have R10 : RunAt S10 q1 a1 (runOf pos [] (cB 0 (body1 ws v b p s)) none) := R10
  rw [hr1] at R10
  obtain ⟨S11, l11, h11, g11, k11⟩ := told_ok (φ := φ) R10 (by show (isort pl).length < 90000; have : (isort pl).length ≤ 48 := hask48; omega)
  have k911 : Kp [] S9 S11 := Kp.app.trans (k10.trans k11)
  have n11 := k911.get n9 List.not_mem_nil
  generalize hspent : ws.sum + 1 = sp at *
  have ne1 := ne_lr (r := ⟨"silent", none, none, some sp, some (sp + R * (p + 4)), isort pl⟩) g11 n11
  have hlr1 : lrV S8.length ⟨"silent", none, none, some sp, some (sp + R * (p + 4)), isort pl⟩ = .tup [.str "silent", .non, .non, .int sp, .int (sp + R * (p + 4)), .ref S8.length] := rfl
  rw [hlr1] at ne1
  have g11a := k911.get g9 List.not_mem_nil
  have b11 := b9.kp k911 List.not_mem_nil
  obtain ⟨g, S12, h12, k12, b12, hg0, hg1⟩ := draw_ok (φ := φ) (m := 16) b11 (by omega) (by omega)
  have g12 := k12.get g11a (ni1 hla)
  have h13 := rounds_ok (φ := φ) (S := S12) (v := v) (b := b) (g := g) hv
  have hCk2 := ok2_ hws hv ⟨hb0, hb1⟩ ⟨hp0, hp1⟩ ⟨hg0, hg1⟩
  obtain ⟨q2, a2, S13, h14, R14, k13, la13⟩ := run_w (φ := φ) (pos := pos) (ms := [pos]) (lim := none) (S := S12 ++ [Ob.lst [.int pos]]) hφ hCk2 (sz2_ hwl) (by show 1 < 90000; omega) get_new (fun l e => by cases e)
  have hRr : -18446744073709551616 < (R : Int) ∧ (R : Int) < 18446744073709551616 := by omega
  rw [repV_n, tv1] at h10
  rw [repV_n, tv2] at h14
  generalize hV : ws.map wv ++ [sv_ v] = V at *
  have hVl : V.length ≤ 6 := by rw [← hV, List.length_append, List.length_map]; show ws.length + 1 ≤ 6; omega
  have hV1 : V.length ≤ 99999 := by omega
  have hV2 : V.length ≤ 99998 := by omega
  unfold wh1 at h10
  rw [hinn] at h10
  unfold wh2 at h14
  have hinn' : Vl.tup [.tup [.str "ask", .str (sD s), .str "a", .str "b"], .tup [.str "wait", .int p], .tup [.str "add", .str "a", .int b]] = inn := hinn
  generalize lrV l11 ⟨"silent", none, none, some sp, some (sp + R * (p + 4)), isort pl⟩ = L11 at *
  generalize hd2 : sp + (R : Int) * (p + 4) = due1 at *
  cases hrd : rd v b g 17 0 with
  | none =>
    have hr2 := run2_silent (ws := ws) (p := p) (pos := pos) (kn := msetL [] [pos]) hv D hR (fun j hj => rd_none hrd j (Nat.zero_le _) (by omega))
    rw [hr2] at R14
    obtain ⟨S14, l14, h15, g14, k14⟩ := told_ok (φ := φ) R14 (by show 0 < 90000; omega)
    generalize hS15 : S14 ++ [Ob.lst []] = S15
    have n15 : S15[S14.length]? = some (Ob.lst (([] : List Int).map Vl.int)) := by rw [← hS15]; exact get_new
    have g15 : S15[l14]? = some (Ob.lst (([] : List Int).map Vl.int)) := by rw [← hS15]; exact get_app g14
    have ne2 := ne_lr (r := ⟨"silent", none, none, some (ws.sum + 1), some (ws.sum + 1 + R * (p + 3)), []⟩) g15 n15
    rw [hspent] at ne2 h15
    have hlr2 : lrV S14.length ⟨"silent", none, none, some sp, some (sp + R * (p + 3)), []⟩ = .tup [.str "silent", .non, .non, .int sp, .int (sp + R * (p + 3)), .ref S14.length] := rfl
    rw [hlr2] at ne2
    rw [hrd] at h13
    unfold oN at h13
    dsimp only at h13
    generalize lrV l14 ⟨"silent", none, none, some sp, some (sp + R * (p + 3)), []⟩ = L14 at *
    generalize hd3 : sp + (R : Int) * (p + 3) = due2 at *
    refine ⟨some (.ref S.length), some (.ref la), some (.int sp), some (.int v), some (.int b), some (.int p), some (.int pos), some (.str (sD s)), some inn, some (.int (R : Int)), some (.ref S6.length), some (.ref S8.length), some (.ref q1), some (.tup [.str "silent", .non, .non, .int sp, .int due2, .ref S14.length]), some (.int g), some .non, some (.tup (V ++ [.tup [.str "while", .tup [.str "a", .str "!=", .int g], .tup [.tup [.str "wait", .int p], .tup [.str "add", .str "a", .int b]]], .tup [.str "answer", .int 1]])), some L14, S15, ?_⟩
    simp! only [l1_law, h1, h2, h3, h4, h5, hpos, h6, hsg, hinn', zWhile_e, hw, hva, ha, hso, g9, hV1, h10, h11, hRr, hd2, ne1, h12, h13, g12, hV2, h14, h15, hd3, hS15, ne2]
  | some c =>
    have hcR := rd_lt D hrd
    obtain ⟨c1, _, c3⟩ := rd_some hrd
    have hr2 := run2_ans (ws := ws) (p := p) (pos := pos) (kn := msetL [] [pos]) hv D hR hcR (fun j hj => c3 j (Nat.zero_le _) hj) c1
    rw [hr2] at R14
    obtain ⟨S14, l14, h15, g14, k14⟩ := told_ok (φ := φ) R14 (by show 0 < 90000; omega)
    generalize hS15 : S14 ++ [Ob.lst []] = S15
    generalize hS16 : S15 ++ [Ob.lst []] = S16
    have n16 : S16[S15.length]? = some (Ob.lst (([] : List Int).map Vl.int)) := by rw [← hS16]; exact get_new
    have g16 : S16[l14]? = some (Ob.lst (([] : List Int).map Vl.int)) := by rw [← hS16, ← hS15]; exact get_app (get_app g14)
    have ne2 := ne_lr (r := ⟨"answered", some 1, some (ws.sum + 1 + c * (p + 3) + 2), none, none, []⟩) g16 n16
    rw [hspent] at ne2 h15
    have hlr2 : lrV S15.length ⟨"answered", some 1, some (sp + c * (p + 3) + 2), none, none, []⟩ = .tup [.str "answered", .int 1, .int (sp + c * (p + 3) + 2), .non, .non, .ref S15.length] := rfl
    rw [hlr2] at ne2
    rw [hrd] at h13
    unfold oN at h13
    dsimp only at h13
    have hcr : -18446744073709551616 < (c : Int) ∧ (c : Int) < 18446744073709551616 := by omega
    generalize lrV l14 ⟨"answered", some 1, some (sp + c * (p + 3) + 2), none, none, []⟩ = L14 at *
    generalize hd3 : sp + (c : Int) * (p + 3) + 2 = due2 at *
    refine ⟨some (.ref S.length), some (.ref la), some (.int sp), some (.int v), some (.int b), some (.int p), some (.int pos), some (.str (sD s)), some inn, some (.int (R : Int)), some (.ref S6.length), some (.ref S8.length), some (.ref q1), some (.tup [.str "answered", .int 1, .int due2, .non, .non, .ref S15.length]), some (.int g), some (.int (c : Int)), some (.tup (V ++ [.tup [.str "while", .tup [.str "a", .str "!=", .int g], .tup [.tup [.str "wait", .int p], .tup [.str "add", .str "a", .int b]]], .tup [.str "answer", .int 1]])), some L14, S16, ?_⟩
    simp! only [l1_law, h1, h2, h3, h4, h5, hpos, h6, hsg, hinn', zWhile_e, hw, hva, ha, hso, g9, hV1, h10, h11, hRr, hd2, ne1, h12, h13, g12, hV2, h14, h15, hcr, hd3, hS15, hS16, ne2]
theorem law_pure (ns : List Int) (hl : ns.length ≤ 63) : ∃ S', m_law 30000 [.scr ns] [] = .ok (.bl true) S' := by
  generalize hm : (if (if ((ns.length : Nat) : Int) < 12 then ((ns.length : Nat) : Int) else 12) > 2 then (if ((ns.length : Nat) : Int) < 12 then ((ns.length : Nat) : Int) else 12) else 2) = m
  have hm1 : 0 ≤ m ∧ m ≤ 12 := by rw [← hm]; split <;> (try split) <;> omega
  have hmr : -4611686018427387904 ≤ m ∧ m < 4611686018427387904 := by omega
  obtain ⟨e, S2, h2, v2, v3, v4, v5, v6, v7, v8, v9, v10, v11, v12, v13, v14, v15, v16, v17, v18, v19, w1, he⟩ := forZ_inv (I := itR 0 m.toNat) (g := gmName 1) (f := l1_law 30000) (rngL 0 m.toNat)
    (fun i env S' => ∃ (v2 v3 v4 v5 v6 v7 v8 v9 v10 v11 v12 v13 v14 v15 v16 v17 v18 v19 w1 : Option Vl), env = [some (.scr ns), w1, v2, v3, v4, v5, v6, v7, v8, v9, v10, v11, v12, v13, v14, v15, v16, v17, v18, v19, none, none]) (fun _ _ _ _ => nxt_R) (fun i x env S' hx ⟨v2, v3, v4, v5, v6, v7, v8, v9, v10, v11, v12, v13, v14, v15, v16, v17, v18, v19, w1, he⟩ => by
      obtain ⟨hi, rfl⟩ := rngL_get hx
      subst he
      obtain ⟨a2, a3, a4, a5, a6, a7, a8, a9, a10, a11, a12, a13, a14, a15, a16, a17, a18, a19, T, h⟩ := turn_ok (φ := 30000) (S := S') (ns := ns) (k := i) (e2 := v2) (e3 := v3) (e4 := v4) (e5 := v5) (e6 := v6) (e7 := v7) (e8 := v8) (e9 := v9) (e10 := v10) (e11 := v11) (e12 := v12) (e13 := v13) (e14 := v14) (e15 := v15) (e16 := v16) (e17 := v17) (e18 := v18) (e19 := v19) (by omega) (by omega)
      refine ⟨[some (.scr ns), some (.int (0 + (i : Nat))), v2, v3, v4, v5, v6, v7, v8, v9, v10, v11, v12, v13, v14, v15, v16, v17, v18, v19, none, none], S', [some (.scr ns), some (.int (i : Nat)), a2, a3, a4, a5, a6, a7, a8, a9, a10, a11, a12, a13, a14, a15, a16, a17, a18, a19, none, none], T, rfl, .inl ?_, a2, a3, a4, a5, a6, a7, a8, a9, a10, a11, a12, a13, a14, a15, a16, a17, a18, a19, some (.int (i : Nat)), rfl⟩
      rw [Int.zero_add]
      exact h)
    m.toNat 0 [some (.scr ns), none, none, none, none, none, none, none, none, none, none, none, none, none, none, none, none, none, none, none, none, none] [] (by rw [rngL_len]; omega) (by omega) ⟨none, none, none, none, none, none, none, none, none, none, none, none, none, none, none, none, none, none, none, rfl⟩
  subst he
  refine ⟨S2, ?_⟩
  simp! only [m_law, b_law, hm, hmr, h2]

end Nt

open PySem PySem.W PySem.Calls PyProof.Rows
set_option maxRecDepth 100000 in
set_option maxHeartbeats 0 in
theorem PySem.Challenge.cw_neithertells_k11_silent_runs_holds : PySem.Challenge.rw_neithertells_k11_silent_runs.Holds := by
  w_on; o_law
  refine HandSHeadRun.head_any (r := PySem.W.OpenLaw.row PySem.Challenge.rw_neithertells_k11_silent_runs) (q := view (PySem.W.OpenLaw.row PySem.Challenge.rw_neithertells_k11_silent_runs).prog [62]) (H := Nt.hk) (ob := Nt.ob) (M := 8000) (loose := Nt.looseN) (d := HandSHeadRun.topDef (PySem.W.OpenLaw.row PySem.Challenge.rw_neithertells_k11_silent_runs).prog 62) (kwd := []) Nt.ob_eq
    (by kernel_rfl) (fun s => by kernel_rfl) Nt.run (by kernel_rfl) (by kernel_rfl) (by kernel_rfl) (by rfl) (by first | assumption | decide +kernel) (by decide +kernel) ⟨rfl, rfl, rfl, rfl, rfl, by decide +kernel⟩ ?hw ?hc
  case hw => w_witness2
  case hc =>
    refine L2.walk_ofE (l := PySem.Challenge.rw_neithertells_k11_silent_runs) (n := 63) (k := 21) (x := "_law_script") (CX := Nt.CXA PySem.Challenge.rw_neithertells_k11_silent_runs.prog) rfl (by decide) (by kernel_rfl) ⟨rfl, by decide, by decide⟩ ?F (fun _ _ _ _ z => Nt.CXA.no z)
    intro w mg fa h Y G hmg0
    obtain ⟨K, KX, c⟩ := Y
    have hmg : mg ("law" : PySem.Str) = some (.ref fa) := by
      have e : (HandSHeadRun.topDef (PySem.W.OpenLaw.row PySem.Challenge.rw_neithertells_k11_silent_runs).prog 62).name = ("law" : PySem.Str) := by kernel_rfl
      rw [← e]
      exact hmg0
    have T := Nt.txt_mk KX G c
    obtain ⟨fd, F⟩ := T.F_law
    have e := hmg.symm.trans T.g_law
    cases e
    have b := L2.FunD.bindsA (ps := ["_law_script"]) F fun _ _ _ _ _ _ us hl => match us, hl with | [_], _ => rfl
    exact ⟨K, fd, Nt.spM Nt.NN K 1 (Nt.m_law 30000), KX, fun s v => b s [v] rfl, fun H a ns hl hO hS => Nt.law_end hO hS (Nt.law_pure ns hl), fun base _ _ => Nt.any_ok ((Nt.fk_law T 30000).fn F)⟩
