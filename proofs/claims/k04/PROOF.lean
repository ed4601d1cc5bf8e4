import PyProof.Rows.All
import Wide.All
import OpenK.AllK
import Wide.FinOn
import HandS.ForMost
import HandS.NoneIn
import HandS.More
import HandS.SortInts
import HandS.Wide
import HandS.IsInst
import HandS.EndBits
import HandS.TupAny
import HandS.Walk
import HandS.ForExc
import HandS.TryMany
import HandS.ExcInit
import HandS.ExcField
import HandS.ExcIs
import HandS.Strs
import HandS.ExcOwn
import PyProof.EnumMake
import PyProof.Draws
import KE.GoesMore
import HandS.OwnEq
import HandS.MakeKwOnly
import HandS.Style
import HandS.FStr
import KE.KUnpack
import HandS.Base
import HandS.Call
import HandS.RevTup
import HandS.Text
import PySem.Challenge.RW_pactford_k04_pacts_texts
set_option Elab.async false
set_option linter.all false
set_option maxRecDepth 100000
set_option maxHeartbeats 4000000
/-! Rules that the hand layer lacks, for these programs. -/
namespace L2
open PySem PySem.Spec PyProof.Rows
section
variable {X : Cx}
theorem get_list : PGet X (rIxL X.K) := by
  intro pins s σ H x y v u Q I rx ry h
  obtain ⟨p, xs, i, z, rfl, rfl, hq, he, q⟩ := h
  cases rx
  obtain ⟨t, rfl⟩ := ry
  obtain ⟨its, r, pl, hz⟩ := I.list hq
  obtain ⟨j, h1, h2, h3, h4, h5⟩ := atI_get he
  obtain ⟨w, ew, rw'⟩ := r.get h2
  have hl := r.length
  have hn := line63
  have fin : EP X pins σ Q w s := ⟨z, H, I, rw', q⟩
  by_cases h0 : 0 ≤ i
  · have hj : i.toNat = j := by
      rw [seqIndex_of h0 h5] at h1
      exact Option.some.inj h1
    exact wpAny_getItem_list pl.isList h0 (by omega) (by rw [hj]; simpa using ew) fin
  · have hj : (i + (its.toArray.size : Int)).toNat = j := by
      rw [seqIndex_neg (by omega) h4] at h1
      rw [List.size_toArray, ← hl]
      exact Option.some.inj h1
    exact wpAny_getItem_list_neg pl.isList (by omega) (by rw [List.size_toArray] <;> omega) (by omega) (by rw [hj]; simpa using ew) fin
end
section
variable {X : Cx} {CX : CXT} {k : Nat} {f C : Addr} {fd : FuncData} {ps ks : List Str} {sp : Sp} {E : XK} {x m : Str} {p pos apos kpos : Pos} {e o : Expr} {es : List Expr} {kws : List Keyword} {te ta : TE} {t tk : TA} {nm : Option Str}
variable {g : List Value → List Value → List Value} {gV : List V → List V → List V}
/-- o.m(.., k = v, ..) -/
def tMethK (C : Addr) (m : Str) (sp : Sp) (gV : List V → List V → List V) (E : XK) (ta : TE) (t tk : TA) : TE := fun σ H Q => ta σ H fun x H1 => ∃ a dx fs, x = .ref a ∧ H1 a = some (.ins C dx fs) ∧ fs.lookup m = none ∧
  t σ H1 fun vs H2 => tk σ H2 fun zs H3 => sp (gV (x :: vs) zs) H3 Q E
theorem pe_methK0 {pl : Sem Bool} (he : PE X o ta) (c : Cls X.K C) (hm : Meth X.K C m f) (F : FnOk X.prog X.w X.K X.mg X.base CX k f fd ps sp) (hr : Room k X.A) (hb : KBinds X.K fd ps ks g gV) (hx : Passes CX X E) (hkw : PK X kws tk)
    (hall : (backToKw pos (keywordEach kws X.env)).all (·.1.isSome) = true := by rfl) (hks : (backToKw pos (keywordEach kws X.env)).filterMap (·.1) = ks := by rfl)
    (hpl : ((backTo pos (starEach [] X.env)).any (·.1) || (backToKw pos (keywordEach kws X.env)).any (·.1.isNone)) = false := by rfl)
    (ht : eval (.Call (.Attribute o m apos) [] kws pos) X.env = (do
      let ov ← eval o X.env
      standAt apos.atName
      let (f, first) ← holding [ov] (getMethod ov m pl)
      callWith pos f first (backTo pos (starEach [] X.env)) (backToKw pos (keywordEach kws X.env))) := by rfl) :
    PE X (.Call (.Attribute o m apos) [] kws pos) (tMethK C m sp gV E ta tNil tk) := by
  refine ⟨fun pins s σ H Q I h => ?_⟩
  refine PySem.W.methodCall_KW (pl := pl) (thn (he.run pins s σ H _ I h) fun u s1 ⟨x, H1, I1, rx, a, dx, fs, ex, ea, l, q⟩ => ?_) ht
  subst ex
  obtain rfl : u = Value.ref a := rx
  refine getmeth_ok I1 ea c hm l ?_
  refine PySem.W.callWith_KW0 (first := [.ref a]) (h₀ := X.base) I.ok.mod.kin hm.kp hall (thn (hkw.run pos pins s1 σ H1 _ I1 q) fun ws s2 ⟨zs, H2, I2, rz, q2⟩ => ⟨I2.kIn, ?_⟩) hpl
  rw [hks]
  exact run_fnk (us := [.ref a]) (vs := [.ref a]) F hr hb hx I2 (.cons rfl .nil) rz q2
theorem pe_methK {pl : Sem Bool} (he : PE X o ta) (c : Cls X.K C) (hm : Meth X.K C m f) (F : FnOk X.prog X.w X.K X.mg X.base CX k f fd ps sp) (hr : Room k X.A) (hb : KBinds X.K fd ps ks g gV) (hx : Passes CX X E) (ha : PA X (e :: es) t) (hkw : PK X kws tk)
    (hall : (backToKw pos (keywordEach kws X.env)).all (·.1.isSome) = true := by rfl) (hks : (backToKw pos (keywordEach kws X.env)).filterMap (·.1) = ks := by rfl)
    (hst : starEach (e :: es) X.env = (false, eval e X.env) :: starEach es X.env := by rfl)
    (hpl : ((backTo pos (starEach (e :: es) X.env)).any (·.1) || (backToKw pos (keywordEach kws X.env)).any (·.1.isNone)) = false := by rfl)
    (ht : eval (.Call (.Attribute o m apos) (e :: es) kws pos) X.env = (do
      let ov ← eval o X.env
      standAt apos.atName
      let (f, first) ← holding [ov] (getMethod ov m pl)
      callWith pos f first (backTo pos (starEach (e :: es) X.env)) (backToKw pos (keywordEach kws X.env))) := by rfl) :
    PE X (.Call (.Attribute o m apos) (e :: es) kws pos) (tMethK C m sp gV E ta t tk) := by
  refine ⟨fun pins s σ H Q I h => ?_⟩
  refine PySem.W.methodCall_KW (pl := pl) (thn (he.run pins s σ H _ I h) fun u s1 ⟨x, H1, I1, rx, a, dx, fs, ex, ea, l, q⟩ => ?_) ht
  subst ex
  obtain rfl : u = Value.ref a := rx
  refine getmeth_ok I1 ea c hm l ?_
  refine PySem.W.callWith_KW (first := [.ref a]) (h₀ := X.base) I.ok.mod.kin hm.kp hall (thn (ha.run pos pins s1 σ H1 _ I1 q) fun us s2 ⟨vs, H2, I2, r, q2⟩ => ?_) hpl hst
  refine thn (hkw.run pos pins s2 σ H2 _ I2 q2) fun ws s3 ⟨zs, H3, I3, rz, q3⟩ => ⟨I3.kIn, ?_⟩
  rw [hks]
  exact run_fnk (us := .ref a :: us) (vs := .ref a :: vs) F hr hb hx I3 (.cons rfl r) rz q3
/-- len(o) by an own __len__ -/
theorem call_lenO (hm : Meth X.K C "__len__" f) (F : FnOk X.prog X.w X.K X.mg X.base CX k f fd ps sp) (hr : Room (k + 1) X.A) (hb : Binds X.K fd ps []) (hx : Passes CX X E) :
    CallR X (.builtin "len") (fun xs H Q => ∃ a dx fs, xs = [V.ref a] ∧ H a = some (.ins C dx fs) ∧ sp [.ref a] H (fun v H2 => ∃ n : Int, v = .int n ∧ 0 ≤ n ∧ n < 2 ^ 63 ∧ Q (.int n) H2) E) := by
  intro pins s σ H xs us Q I r h
  obtain ⟨a, dx, fs, rfl, ea, q⟩ := h
  obtain ⟨u, rfl, ru⟩ := vals1 r
  cases ru
  obtain ⟨m', hF⟩ := I.fr
  obtain ⟨mA, O, _, _, _, _⟩ := ins_get I.hok ea
  obtain ⟨od, J, _⟩ := O.look
  have hl : ([Value.ref a] ++ ([] : List Value)).length = ps.length := by
    have := F.len _ _ _ _ q
    simpa using this
  refine PySem.W.len_K hF I.ok.mod.kin J hm.at_ hm.fn (wpAny_call (codeAny_mono (F.run X.A.in1 X.stack s H ⟨[.ref a], []⟩ [.ref a] [.ref a] _ E hr.in1 I.env0.in1 (hb s [.ref a] I.kIn hl) (.cons rfl .nil) q) fun r s' hq => ?_))
  cases r with
  | error e => exact hx pins σ H s e s' I hq
  | ok fl =>
    cases fl with
    | ret u =>
      obtain ⟨v, H', I', rv, n, rfl, h0, h1, q'⟩ := I.after hq
      obtain ⟨t, rfl⟩ := rv
      exact ⟨⟨h0, h1⟩, .int n, H', I'.tok _, ⟨_, rfl⟩, q'⟩
    | next => exact False.elim hq
    | brk => exact False.elim hq
    | cont => exact False.elim hq
end
section
variable {X : Cx}
/-- the keys that were gathered are these ints -/
theorem gathered {P : Program} {w : World} {vs : List (Key × Value)} {acc : Array Value} {ks : List Int} (hk : vs.map (·.1) = ks.map Sum.inl) (hn : acc.size = vs.length)
    (ha : ∀ (j : Nat) (v : Value), acc[j]? = some v → ∃ k x, vs[j]? = some (k, x) ∧ (mixKind P w).is k v = true) : IntsAre acc.toList ks := by
  have hlk : vs.length = ks.length := by simpa using congrArg List.length hk
  refine ints_each (by rw [Array.length_toList, hn, hlk]) fun j v ev => ?_
  obtain ⟨k, x, hv, hi⟩ := ha j v (by rw [← Array.getElem?_toList]; exact ev)
  have hj : (ks.map (Sum.inl : Int → Key))[j]? = some k := by rw [← hk, List.getElem?_map, hv]; rfl
  rw [List.getElem?_map] at hj
  cases hz : ks[j]? with
  | none => rw [hz] at hj; cases hj
  | some n =>
    rw [hz] at hj
    cases hj
    rcases keyIs_shape (show keyIs (Sum.inl n) v = true from hi) with ⟨i, t, hl, hr⟩ | ⟨z, t, hl, _⟩
    · cases hl
      exact ⟨n, t, rfl, hr⟩
    · cases hl
/-- sorted(d) of a dict whose keys are ints, any number -/
def rSortD : List V → Hp → VK → Prop := fun xs H Q => ∃ (d : Addr) (kvs : List (Key × V)) (ks : List Int), xs = [.ref d] ∧ Rd H d (.dK kvs) ∧ kvs.map (·.1) = ks.map Sum.inl ∧
  ∀ (ys : List Int) (l : Addr), ys.Perm ks → ys.Pairwise (· ≤ ·) → H l = none → Q (.ref l) (upd H l (.lst (ys.map V.int)))
theorem call_sortedDX (hcalm : X.calm = true) : CallR X (.builtin "sorted") rSortD := by
  intro pins s σ H xs us Q I r h
  obtain ⟨d, kvs, ks, rfl, hd, hks, q⟩ := h
  obtain ⟨u, rfl, ru⟩ := vals1 r
  cases ru
  obtain ⟨hsz, hmod, vs, hkv, hD⟩ := dk_rd I.hok hd
  obtain ⟨ep, hat⟩ := hD.dictAt
  have hvk : vs.map (·.1) = ks.map Sum.inl := hkv.keys.symm.trans hks
  have hvl : vs.length = kvs.length := by
    have e1 : vs.length = ks.length := by simpa using congrArg List.length hvk
    have e2 : kvs.length = ks.length := by simpa using congrArg List.length hks
    omega
  have hvs : vs.length ≤ sizeLine := hvl ▸ hsz
  refine Calls.call_function_entry kind_sorted plain_sorted entry_sorted (args_sorted1 _) ?_
  unfold Builtin.«sorted»
  refine wpAny_bind (m := checkCount "sorted" 1 1 _) (wpAny_pure (wpAny_bind ?_))
  refine PySem.W.kdu_collect (A := X.A.in1) (PySem.W.kdl_dict (knd := mixKind X.prog X.w) (kvs := vs) (ep := ep) hmod) (I.ok.hd hcalm) hat hvs fun hp tk acc hold hacc => ?_
  have J : Inv X pins σ H { s with heap := hp, toks := tk } := I.kept hold
  have hint : IntsAre acc.toList ks := gathered hvk hacc.1 hacc.2
  have hal : acc.toList.length ≤ sizeLine := by rw [Array.length_toList, hacc.1]; exact hvs
  refine wpAny_bind (wpAny_newList ?_ hal)
  have hnew : (hp.push (seqObj "list" acc.toList.toArray 0)).get? hp.objs.size = some (seqObj "list" acc.toList.toArray 0) := Heap.get?_push_size _ rfl
  show wpAny _ _ _ _ _ (Shared.mk (hp.push (seqObj "list" acc.toList.toArray 0)) s.gens s.drawn tk s.os)
  refine wpAny_bind (wpAny_holding (wpAny_call_entry slot_list_sort ⟨_, hnew, rfl⟩ entry_list_sort ?_ (args_list_sort _)))
  refine SrtO.list_sort_ord (s := Shared.mk (hp.push (seqObj "list" acc.toList.toArray 0)) s.gens s.drawn tk s.os) SrtO.swo_int hnew hal (fun h2 => SrtO.ints_sortable hint h2) fun out h1 h2 => ⟨_, rfl, ?_⟩
  obtain ⟨k1, k2, k3⟩ := SrtO.ints_out hint h1 h2
  obtain ⟨e', he'⟩ := sortedHeap_at (vs := acc.toList) (out := out.toArray) hnew
  have hol : ((out.map SrtO.iv).map V.int).length ≤ sizeLine := by
    have : ks.length = vs.length := by simpa using (congrArg List.length hvk).symm
    rw [List.length_map, k2.length_eq, this]
    exact hvs
  refine wpAny_pure ⟨_, rfl, .ref hp.objs.size, upd H hp.objs.size (.lst ((out.map SrtO.iv).map V.int)), ?_, rfl, q _ _ k2 k3 (J.hok.fresh (Nat.le_refl _))⟩
  refine J.laid (t' := tk) (fun b u e => ?_) (Nat.le_refl _) (show ObjOk X.prog X.w _ _ _ (.lst ((out.map SrtO.iv).map V.int)) from ⟨hol, out, e', vals_of_ints k1, he'⟩)
  have hb : b < hp.objs.size := Heap.lt_size e
  rw [sortedHeap_old (Nat.ne_of_lt hb) (by rw [size_push']; exact Nat.lt_succ_of_lt hb)]
  exact Heap.get?_push_of_some _ e
end
section
variable {X : Cx}
/-- a statement, then the rest, with a word between them -/
@[irreducible] def tMid (t u : TS) : TS := fun D σ H => ∃ Mid : St → Hp → Prop, t { D with nx := Mid } σ H ∧ ∀ σ' H', Mid σ' H' → u D σ' H'
theorem pss_mid {st : Stmt} {rest : List Stmt} {t u : TS} (h1 : PS X st t) (h2 : PSs X rest u) : PSs X (st :: rest) (tMid t u) := by
  refine ⟨fun pins s σ H D I h => ?_⟩
  unfold tMid at h
  obtain ⟨Mid, hm, hu⟩ := h
  refine wpAny_execs_cons (thn (h1.run pins s σ H { D with nx := Mid } I hm) fun f s1 q => ?_)
  cases f with
  | next =>
    obtain ⟨σ', H', I', q⟩ := q
    exact h2.run pins s1 σ' H' D I' (hu σ' H' q)
  | ret v => exact q
  | brk => exact q
  | cont => exact q
end
/-- what the walk doesn't look into -/
@[irreducible] def Wait (p : Prop) : Prop := p
theorem wait {p : Prop} (h : p) : Wait p := by
  unfold Wait
  exact h
theorem Wait.out {p : Prop} (h : Wait p) : p := by
  unfold Wait at h
  exact h
theorem mid_of {t u : TS} {D : Ends} {σ : St} {H : Hp} (Mid : St → Hp → Prop) (h1 : t { D with nx := fun σ H => Wait (Mid σ H) } σ H) (h2 : ∀ σ' H', Mid σ' H' → u D σ' H') : tMid t u D σ H := by
  unfold tMid
  exact ⟨fun σ H => Wait (Mid σ H), h1, fun σ' H' h => h2 σ' H' h.out⟩
/-- a loop: the walk stops ahead of it -/
@[irreducible] def tStop (t : TS) : TS := t
theorem ps_stop {X : Cx} {st : Stmt} {t : TS} (h : PS X st t) : PS X st (tStop t) := by
  unfold tStop
  exact h
theorem stop_in {t : TS} {D : Ends} {σ : St} {H : Hp} (h : t D σ H) : tStop t D σ H := by
  unfold tStop
  exact h
theorem sq_seq {t u : TS} {D : Ends} {σ : St} {H : Hp} (h : t { D with nx := u D } σ H) : tSeq t u D σ H := h
theorem ifT {c : Bool} {A B : Prop} (hc : c = true) (h : A) : if c = true then A else B := by rw [if_pos hc]; exact h
theorem ifF {c : Bool} {A B : Prop} (hc : c = false) (h : B) : if c = true then A else B := by rw [hc, if_neg Bool.false_ne_true]; exact h
theorem ifD {p : Prop} [Decidable p] {A B : Prop} (h1 : p → A) (h2 : ¬ p → B) : if decide p = true then A else B := by
  by_cases h : p
  · rw [if_pos (decide_eq_true h)]; exact h1 h
  · rw [if_neg (by rw [decide_eq_false h]; exact Bool.false_ne_true)]; exact h2 h
theorem ifN {p : Prop} [Decidable p] {A B : Prop} (h1 : ¬ p → A) (h2 : p → B) : if (!decide p) = true then A else B := by
  by_cases h : p
  · rw [decide_eq_true h, if_neg (by decide)]; exact h2 h
  · rw [decide_eq_false h, if_pos (by decide)]; exact h1 h
theorem ifB {c : Bool} {A B : Prop} (h1 : c = true → A) (h2 : c = false → B) : if c = true then A else B := by
  cases c with
  | true => rw [if_pos rfl]; exact h1 rfl
  | false => rw [if_neg Bool.false_ne_true]; exact h2 rfl
theorem upd_get {H : Hp} {a b : Addr} {o : HO} {u : Option HO} (h : b ≠ a) (e : H b = u) : upd H a o b = u := (upd_ne h).trans e
theorem fmod_pos {i j : Int} (h : 0 < j) : 0 ≤ i.fmod j ∧ i.fmod j < j := ⟨Int.fmod_nonneg_of_pos _ h, Int.fmod_lt_of_pos _ h⟩
theorem atI_in {α : Type} {xs : List α} {i : Int} (h0 : 0 ≤ i) (h1 : i < (xs.length : Int)) : ∃ v, atI xs i = some v ∧ xs[i.toNat]? = some v := by
  obtain ⟨j, rfl⟩ : ∃ j : Nat, i = (j : Int) := ⟨i.toNat, by omega⟩
  have hj : j < xs.length := by omega
  have e : xs[j]? = some xs[j] := List.getElem?_eq_getElem hj
  exact ⟨_, atI_nat e, by rw [Int.toNat_natCast]; exact e⟩
theorem atI_ints {ns : List Int} {i : Int} (h0 : 0 ≤ i) (h1 : i < (ns.length : Int)) : ∃ z, atI (ns.map V.int) i = some (.int z) ∧ ns[i.toNat]? = some z := by
  obtain ⟨v, e1, e2⟩ := atI_in (xs := ns.map V.int) h0 (by rw [List.length_map]; exact h1)
  rw [List.getElem?_map] at e2
  cases e : ns[i.toNat]? with
  | none => rw [e] at e2; cases e2
  | some z =>
    rw [e] at e2
    cases e2
    exact ⟨z, e1, rfl⟩
/-- a while by a word that bears its own measure -/
theorem while_W {c : TT} {tb : TS} {D : Ends} {σ : St} {H : Hp} (W : Nat → St → Hp → Prop) (m : Nat) (h0 : W m σ H)
    (hs : ∀ m σ H, W m σ H → c σ H fun b H1 => if b = true then ∃ N : St → Hp → Prop, (∀ σ' H', N σ' H' → ∃ m', m' < m ∧ W m' σ' H') ∧ tb { D with nx := N, ct := N, bk := D.nx } σ H1 else D.nx σ H1) : tStop (tWhile c tb) D σ H :=
  stop_in ⟨W, ⟨m, h0⟩, hs⟩
theorem next_W {tb : TS} {D : Ends} {σ : St} {H : Hp} {W : Nat → St → Hp → Prop} {m : Nat}
    (h : tb { D with nx := fun σ' H' => Wait (∃ m', m' < m ∧ W m' σ' H'), ct := fun σ' H' => Wait (∃ m', m' < m ∧ W m' σ' H'), bk := D.nx } σ H) :
    ∃ N : St → Hp → Prop, (∀ σ' H', N σ' H' → ∃ m', m' < m ∧ W m' σ' H') ∧ tb { D with nx := N, ct := N, bk := D.nx } σ H := ⟨_, fun _ _ h => h.out, h⟩
theorem forL {K : PySem.W.Frag} {a : Addr} {xs : List V} {g : TG} {tb : TS} {D : Ends} {σ : St} {H : Hp} (Pv : Nat → St → Hp → Prop) (h0 : Pv 0 σ H) (hl : ∀ i σ H, i ≤ xs.length → Pv i σ H → SqL K H a xs)
    (hs : ∀ i x σ H, xs[i]? = some x → Pv i σ H → g x σ H fun σ2 H2 => tb { D with nx := fun σ H => Wait (Pv (i + 1) σ H), ct := fun σ H => Wait (Pv (i + 1) σ H), bk := D.nx } σ2 H2) (hd : ∀ σ H, Pv xs.length σ H → D.nx σ H) :
    ∃ W : Nat → Nat → St → Hp → Prop, (∃ m, W 0 m σ H) ∧ ∀ i m σ H, W i m σ H →
      ((Itl K a).stop i H ∧ D.nx σ H) ∨ ((Itl K a).go i H ∧ ∃ N : St → Hp → Prop, (∀ σ' H', N σ' H' → ∃ m', m' < m ∧ W (i + 1) m' σ' H') ∧ ∀ x H', (Itl K a).yld i H x H' → g x σ H' fun σ2 H2 => tb { D with nx := N, ct := N, bk := D.nx } σ2 H2) :=
  for_list (fun i σ H => Wait (Pv i σ H)) (wait h0) (fun i σ H hi p => hl i σ H hi p.out) (fun i x σ H hx p => hs i x σ H hx p.out) fun σ H p => hd σ H p.out
theorem forT {K : PySem.W.Frag} {a : Addr} {xs : List V} {g : TG} {tb : TS} {D : Ends} {σ : St} {H : Hp} (Pv : Nat → St → Hp → Prop) (h0 : Pv 0 σ H) (hl : ∀ i σ H, i ≤ xs.length → Pv i σ H → SqT K H a xs)
    (hs : ∀ i x σ H, xs[i]? = some x → Pv i σ H → g x σ H fun σ2 H2 => tb { D with nx := fun σ H => Wait (Pv (i + 1) σ H), ct := fun σ H => Wait (Pv (i + 1) σ H), bk := D.nx } σ2 H2) (hd : ∀ σ H, Pv xs.length σ H → D.nx σ H) :
    ∃ W : Nat → Nat → St → Hp → Prop, (∃ m, W 0 m σ H) ∧ ∀ i m σ H, W i m σ H →
      ((Itt K a).stop i H ∧ D.nx σ H) ∨ ((Itt K a).go i H ∧ ∃ N : St → Hp → Prop, (∀ σ' H', N σ' H' → ∃ m', m' < m ∧ W (i + 1) m' σ' H') ∧ ∀ x H', (Itt K a).yld i H x H' → g x σ H' fun σ2 H2 => tb { D with nx := N, ct := N, bk := D.nx } σ2 H2) :=
  for_tup (fun i σ H => Wait (Pv i σ H)) (wait h0) (fun i σ H hi p => hl i σ H hi p.out) (fun i x σ H hx p => hs i x σ H hx p.out) fun σ H p => hd σ H p.out
theorem forR {lo : Int} {n : Nat} {g : TG} {tb : TS} {D : Ends} {σ : St} {H : Hp} (Pv : Nat → St → Hp → Prop) (h0 : Pv 0 σ H)
    (hs : ∀ i σ H, i < n → Pv i σ H → g (.int (lo + i)) σ H fun σ2 H2 => tb { D with nx := fun σ H => Wait (Pv (i + 1) σ H), ct := fun σ H => Wait (Pv (i + 1) σ H), bk := D.nx } σ2 H2) (hd : ∀ σ H, Pv n σ H → D.nx σ H) :
    ∃ W : Nat → Nat → St → Hp → Prop, (∃ m, W 0 m σ H) ∧ ∀ i m σ H, W i m σ H →
      ((Itr lo n).stop i H ∧ D.nx σ H) ∨ ((Itr lo n).go i H ∧ ∃ N : St → Hp → Prop, (∀ σ' H', N σ' H' → ∃ m', m' < m ∧ W (i + 1) m' σ' H') ∧ ∀ x H', (Itr lo n).yld i H x H' → g x σ H' fun σ2 H2 => tb { D with nx := N, ct := N, bk := D.nx } σ2 H2) :=
  for_range (fun i σ H => Wait (Pv i σ H)) (wait h0) (fun i σ H hi p => hs i σ H hi p.out) fun σ H p => hd σ H p.out
theorem lcL {K : PySem.W.Frag} {a : Addr} {xs : List V} {g : TG} {tt : TT} {te : TE} {vs : List Nat} {σ : St} {H1 : Hp} {D : Addr} {Qd : Hp → Prop} (Pv : Nat → Hp → Prop) (h0 : Pv 0 (upd H1 D (.lst []))) (hl : ∀ i H, i ≤ xs.length → Pv i H → SqL K H a xs)
    (hs : ∀ i x H, xs[i]? = some x → Pv i H → g x (wipe σ vs) H fun σ2 H2 => wipe σ2 vs = wipe σ vs ∧ tt σ2 H2 fun b H3 =>
      if b = true then te σ2 H3 fun y H4 => ∃ acc, H4 D = some (.lst acc) ∧ acc.length < sizeLine ∧ Wait (Pv (i + 1) (upd H4 D (.lst (acc ++ [y])))) else Wait (Pv (i + 1) H3)) (hd : ∀ H, Pv xs.length H → Qd H) :
    ∃ W : Nat → Nat → Hp → Prop, (∃ m, W 0 m (upd H1 D (.lst []))) ∧ ∀ i m H, W i m H →
      ((Itl K a).stop i H ∧ Qd H) ∨ ((Itl K a).go i H ∧ ∃ Nx : Hp → Prop, (∀ H', Nx H' → ∃ m', m' < m ∧ W (i + 1) m' H') ∧ ∀ x H', (Itl K a).yld i H x H' → g x (wipe σ vs) H' fun σ2 H2 => wipe σ2 vs = wipe σ vs ∧ tt σ2 H2 fun b H3 =>
        if b = true then te σ2 H3 fun y H4 => ∃ acc, H4 D = some (.lst acc) ∧ acc.length < sizeLine ∧ Nx (upd H4 D (.lst (acc ++ [y]))) else Nx H3) :=
  lc_list (fun i H => Wait (Pv i H)) (wait h0) (fun i H hi p => hl i H hi p.out) (fun i x H hx p => hs i x H hx p.out) fun H p => hd H p.out
theorem lcT {K : PySem.W.Frag} {a : Addr} {xs : List V} {g : TG} {tt : TT} {te : TE} {vs : List Nat} {σ : St} {H1 : Hp} {D : Addr} {Qd : Hp → Prop} (Pv : Nat → Hp → Prop) (h0 : Pv 0 (upd H1 D (.lst []))) (hl : ∀ i H, i ≤ xs.length → Pv i H → SqT K H a xs)
    (hs : ∀ i x H, xs[i]? = some x → Pv i H → g x (wipe σ vs) H fun σ2 H2 => wipe σ2 vs = wipe σ vs ∧ tt σ2 H2 fun b H3 =>
      if b = true then te σ2 H3 fun y H4 => ∃ acc, H4 D = some (.lst acc) ∧ acc.length < sizeLine ∧ Wait (Pv (i + 1) (upd H4 D (.lst (acc ++ [y])))) else Wait (Pv (i + 1) H3)) (hd : ∀ H, Pv xs.length H → Qd H) :
    ∃ W : Nat → Nat → Hp → Prop, (∃ m, W 0 m (upd H1 D (.lst []))) ∧ ∀ i m H, W i m H →
      ((Itt K a).stop i H ∧ Qd H) ∨ ((Itt K a).go i H ∧ ∃ Nx : Hp → Prop, (∀ H', Nx H' → ∃ m', m' < m ∧ W (i + 1) m' H') ∧ ∀ x H', (Itt K a).yld i H x H' → g x (wipe σ vs) H' fun σ2 H2 => wipe σ2 vs = wipe σ vs ∧ tt σ2 H2 fun b H3 =>
        if b = true then te σ2 H3 fun y H4 => ∃ acc, H4 D = some (.lst acc) ∧ acc.length < sizeLine ∧ Nx (upd H4 D (.lst (acc ++ [y]))) else Nx H3) :=
  lc_tup (fun i H => Wait (Pv i H)) (wait h0) (fun i H hi p => hl i H hi p.out) (fun i x H hx p => hs i x H hx p.out) fun H p => hd H p.out
theorem lcR {lo : Int} {n : Nat} {g : TG} {tt : TT} {te : TE} {vs : List Nat} {σ : St} {H1 : Hp} {D : Addr} {Qd : Hp → Prop} (Pv : Nat → Hp → Prop) (h0 : Pv 0 (upd H1 D (.lst [])))
    (hs : ∀ i H, i < n → Pv i H → g (.int (lo + i)) (wipe σ vs) H fun σ2 H2 => wipe σ2 vs = wipe σ vs ∧ tt σ2 H2 fun b H3 =>
      if b = true then te σ2 H3 fun y H4 => ∃ acc, H4 D = some (.lst acc) ∧ acc.length < sizeLine ∧ Wait (Pv (i + 1) (upd H4 D (.lst (acc ++ [y])))) else Wait (Pv (i + 1) H3)) (hd : ∀ H, Pv n H → Qd H) :
    ∃ W : Nat → Nat → Hp → Prop, (∃ m, W 0 m (upd H1 D (.lst []))) ∧ ∀ i m H, W i m H →
      ((Itr lo n).stop i H ∧ Qd H) ∨ ((Itr lo n).go i H ∧ ∃ Nx : Hp → Prop, (∀ H', Nx H' → ∃ m', m' < m ∧ W (i + 1) m' H') ∧ ∀ x H', (Itr lo n).yld i H x H' → g x (wipe σ vs) H' fun σ2 H2 => wipe σ2 vs = wipe σ vs ∧ tt σ2 H2 fun b H3 =>
        if b = true then te σ2 H3 fun y H4 => ∃ acc, H4 D = some (.lst acc) ∧ acc.length < sizeLine ∧ Nx (upd H4 D (.lst (acc ++ [y]))) else Nx H3) :=
  lc_range (fun i H => Wait (Pv i H)) (wait h0) (fun i H hi p => hs i H hi p.out) fun H p => hd H p.out
theorem ints_at {ns : List Int} {i : Nat} {y : V} (h : (ns.map V.int)[i]? = some y) : ∃ u, y = V.int u ∧ ns[i]? = some u ∧ i < ns.length := by
  rw [List.getElem?_map] at h
  cases e : ns[i]? with
  | none => rw [e] at h; cases h
  | some u =>
    rw [e] at h
    exact ⟨u, (Option.some.inj h).symm, rfl, (List.getElem?_eq_some_iff.mp e).1⟩
theorem filt_len {α : Type} (p : α → Bool) (xs : List α) (i : Nat) : ((xs.take i).filter p).length ≤ xs.length := Nat.le_trans (List.length_filter_le _ _) (by rw [List.length_take]; omega)
theorem take_filt_yes {α : Type} {p : α → Bool} {xs : List α} {i : Nat} {x : α} (h : xs[i]? = some x) (hp : p x = true) : (xs.take (i + 1)).filter p = (xs.take i).filter p ++ [x] := by
  rw [List.take_add_one, h, Option.toList_some, List.filter_append, List.filter_cons, if_pos hp] <;> rfl
theorem take_filt_no {α : Type} {p : α → Bool} {xs : List α} {i : Nat} {x : α} (h : xs[i]? = some x) (hp : p x = false) : (xs.take (i + 1)).filter p = (xs.take i).filter p := by
  rw [List.take_add_one, h, Option.toList_some, List.filter_append, List.filter_cons, if_neg (by rw [hp]; decide), List.filter_nil, List.append_nil]
theorem small_lt {n : Nat} (h : n ≤ 100000) : n < sizeLine := Nat.lt_of_le_of_lt h (by decide)
theorem small_le {n : Nat} (h : n ≤ 100000) : n ≤ sizeLine := Nat.le_of_lt (small_lt h)
theorem isi_b {K : PySem.W.Frag} {H : Hp} {Q : VK} {x : V} {t c : String} {b : Bool} (ty : TyX K H x (.type t)) (h : kitB t c = some b) (q : Q (.bl b) H) : rIsi K [x, .ty c] H Q :=
  ⟨x, .ty c, .type t, .type c, b, rfl, .ty c, ty, kit_ty h, q⟩
theorem Same.seqT {K : PySem.W.Frag} {H H' : Hp} {a : Addr} {xs : List V} (e : Same H H') (h : SqT K H a xs) : SqT K H' a xs := by
  rcases h with (h | ⟨o, h⟩) | h
  · exact .inl (.inl (e _ _ h))
  · exact .inl (.inr ⟨o, e _ _ h⟩)
  · exact .inr h
theorem Same.upd_new {H : Hp} {p : Addr} {o : HO} (h : H p = none) : Same H (upd H p o) := fun b u e => by rw [upd_ne (ne_of_none e h)]; exact e
mutual
theorem Dp.same {K : PySem.W.Frag} {H H' : Hp} (e : Same H H') : ∀ {v : V} {d : PyData}, Dp K H v d → Dp K H' v d
  | _, _, .non => .non
  | _, _, .bl b => .bl b
  | _, _, .int i => .int i
  | _, _, .str x => .str x
  | _, _, .lst h r => .lst (e.seq h) (DpAll.same e r)
  | _, _, .tup h r => .tup (e.seqT h) (DpAll.same e r)
theorem DpAll.same {K : PySem.W.Frag} {H H' : Hp} (e : Same H H') : ∀ {vs : List V} {ds : List PyData}, DpAll K H vs ds → DpAll K H' vs ds
  | _, _, .nil => .nil
  | _, _, .cons h r => .cons (Dp.same e h) (DpAll.same e r)
end
theorem DpAll.snoc {K : PySem.W.Frag} {H : Hp} : ∀ {vs : List V} {ds : List PyData} {v : V} {d : PyData}, DpAll K H vs ds → Dp K H v d → DpAll K H (vs ++ [v]) (ds ++ [d])
  | _, _, _, _, .nil, h => .cons h .nil
  | _, _, _, _, .cons a r, h => .cons a (DpAll.snoc r h)
theorem DpAll.len {K : PySem.W.Frag} {H : Hp} : ∀ {vs : List V} {ds : List PyData}, DpAll K H vs ds → vs.length = ds.length
  | _, _, .nil => rfl
  | _, _, .cons _ r => by rw [List.length_cons, List.length_cons, DpAll.len r]
/-- two whole numbers -/
def pairD (p : Int × Int) : PyData := .tuple [.int p.1, .int p.2]
theorem pairD_of {K : PySem.W.Frag} {H : Hp} {t : Addr} {p : Int × Int} (h : H t = some (.tup [.int p.1, .int p.2])) : Dp K H (.ref t) (pairD p) := .tup (SqT.of h) (.cons (.int _) (.cons (.int _) .nil))
theorem lay_pairs : ∀ l : List (Int × Int), PyData.canLayAll0 (l.map pairD) = true
  | [] => rfl
  | p :: r => by
    show (PyData.canLay0 (pairD p) && PyData.canLayAll0 (r.map pairD)) = true
    rw [lay_pairs r] <;> rfl
theorem depth_pairs : ∀ l : List (Int × Int), PyData.depthAll (l.map pairD) ≤ 1
  | [] => Nat.zero_le _
  | p :: r => by
    show max (PyData.depth (pairD p)) (PyData.depthAll (r.map pairD)) ≤ 1
    have := depth_pairs r
    have e : PyData.depth (pairD p) = 1 := rfl
    omega
theorem shaped_pairs (l : List (Int × Int)) : SeqAt.shaped (.list (l.map pairD)) = true := by
  unfold SeqAt.shaped
  rw [Bool.and_eq_true]
  refine ⟨lay_pairs l, decide_eq_true ?_⟩
  show PyData.depthAll (l.map pairD) + 1 ≤ 64
  have := depth_pairs l
  omega
theorem shaped_pair (p : Int × Int) : SeqAt.shaped (pairD p) = true := rfl
theorem eqv_self {d : PyData} (h : SeqAt.shaped d = true) : PyData.eqv d d = true := SeqAt.eqv_refl d (SeqAt.canLay_of_shaped h)
theorem ifYes {p : Prop} [Decidable p] {A B : Prop} (h : p) (hA : A) : if decide p = true then A else B := ifT (decide_eq_true h) hA
theorem ifNo {p : Prop} [Decidable p] {A B : Prop} (h : ¬ p) (hB : B) : if decide p = true then A else B := ifF (decide_eq_false h) hB
theorem ifNY {p : Prop} [Decidable p] {A B : Prop} (h : ¬ p) (hA : A) : if (!decide p) = true then A else B := ifT (by rw [decide_eq_false h]; rfl) hA
theorem ifNN {p : Prop} [Decidable p] {A B : Prop} (h : p) (hB : B) : if (!decide p) = true then A else B := ifF (by rw [decide_eq_true h]; rfl) hB
/-- for k in d, d locked -/
theorem forK {d : Addr} {o : Obj} {kvs : List (Key × V)} {g : TG} {tb : TS} {D : Ends} {σ : St} {H : Hp} (Pv : Nat → St → Hp → Prop) (h0 : Pv 0 σ H) (hl : ∀ i σ H, i ≤ kvs.length → Pv i σ H → H d = some (.frz o (.dK kvs)))
    (hs : ∀ (i : Nat) (k : Key) (v : V) (σ : St) (H : Hp), kvs[i]? = some (k, v) → Pv i σ H → g (kV k) σ H fun σ2 H2 => tb { D with nx := fun σ H => Wait (Pv (i + 1) σ H), ct := fun σ H => Wait (Pv (i + 1) σ H), bk := D.nx } σ2 H2) (hd : ∀ σ H, Pv kvs.length σ H → D.nx σ H) :
    ∃ W : Nat → Nat → St → Hp → Prop, (∃ m, W 0 m σ H) ∧ ∀ i m σ H, W i m σ H →
      ((Itk d o kvs).stop i H ∧ D.nx σ H) ∨ ((Itk d o kvs).go i H ∧ ∃ N : St → Hp → Prop, (∀ σ' H', N σ' H' → ∃ m', m' < m ∧ W (i + 1) m' σ' H') ∧ ∀ x H', (Itk d o kvs).yld i H x H' → g x σ H' fun σ2 H2 => tb { D with nx := N, ct := N, bk := D.nx } σ2 H2) := by
  refine ⟨fun i m σ H => m = kvs.length - i ∧ i ≤ kvs.length ∧ Wait (Pv i σ H), ⟨kvs.length, by simp, Nat.zero_le _, wait h0⟩, ?_⟩
  rintro i m σ H ⟨rfl, hi, p⟩
  have q := hl i σ H hi p.out
  by_cases hlt : i < kvs.length
  · refine .inr ⟨⟨q, hlt⟩, fun σ H => Wait (Pv (i + 1) σ H), fun σ' H' p' => ⟨kvs.length - (i + 1), by omega, rfl, hlt, p'⟩, fun x H' y => ?_⟩
    obtain ⟨rfl, k, v, e, rfl⟩ := y
    exact hs i k v σ _ e p.out
  · have e : i = kvs.length := by omega
    subst e
    exact .inl ⟨⟨q, Nat.le_refl _⟩, hd σ H p.out⟩
/-- tuples of two whole numbers at these addresses -/
def Tups (H : Hp) (ts : List Addr) (ps : List (Int × Int)) : Prop := Paired (fun (t : Addr) (p : Int × Int) => H t = some (.tup [.int p.1, .int p.2])) ts ps
theorem Tups.keep {H H' : Hp} {ts : List Addr} {ps : List (Int × Int)} (h : Tups H ts ps) (k : ∀ t xs, H t = some (.tup xs) → H' t = some (.tup xs)) : Tups H' ts ps := Paired.mapP h fun _ _ e => k _ _ e
theorem Tups.dp {K : PySem.W.Frag} {H : Hp} {ts : List Addr} {ps : List (Int × Int)} (h : Tups H ts ps) : DpAll K H (ts.map V.ref) (ps.map pairD) := by
  unfold Tups at h
  induction h with
  | nil => exact .nil
  | cons e _ ih => exact .cons (pairD_of e) ih
theorem Tups.snoc {H : Hp} {ts : List Addr} {ps : List (Int × Int)} {t : Addr} {p : Int × Int} (h : Tups H ts ps) (e : H t = some (.tup [.int p.1, .int p.2])) : Tups H (ts ++ [t]) (ps ++ [p]) := Paired.snoc h e
theorem Tups.len {H : Hp} {ts : List Addr} {ps : List (Int × Int)} (h : Tups H ts ps) : ts.length = ps.length := Paired.length h
theorem keepT_upd {H : Hp} {D : Addr} {o : HO} {xs : List V} (h : H D = some (.lst xs)) : ∀ t ys, H t = some (.tup ys) → upd H D o t = some (.tup ys) := fun t ys e => by
  rw [upd_ne (ne_of e h (by intro z; cases z))]
  exact e
theorem kV_int (i : Int) : V.int i = kV (Sum.inl i) := rfl
theorem kV_str (x : Str) : V.str x = kV (Sum.inr x) := rfl
def rLenK (K : PySem.W.Frag) : List V → Hp → VK → Prop := fun xs H Q => ∃ p ys, xs = [V.ref p] ∧ (SqL K H p ys ∨ SqT K H p ys) ∧ Q (.int ys.length) H
theorem call_lenK {X : Cx} : CallR X (.builtin "len") (rLenK X.K) := call_len_seq
theorem sorted_same {a b : List Int} (hp : a.Perm b) (ha : a.Pairwise (· ≤ ·)) (hb : b.Pairwise (· ≤ ·)) : a = b := hp.eq_of_pairwise (fun _ _ _ _ h1 h2 => Int.le_antisymm h1 h2) ha hb
/-- a test whose ways are joined -/
@[irreducible] def tMidT (t : TT) : TT := fun σ H Q => ∃ M : Bool → Hp → Prop, t σ H M ∧ ∀ b H', M b H' → Q b H'
theorem pt_mid {X : Cx} {e : Expr} {t : TT} (h : PT X e t) : PT X e (tMidT t) := by
  refine ⟨fun pins s σ H Q I q => ?_⟩
  unfold tMidT at q
  obtain ⟨M, h1, h2⟩ := q
  exact thn (h.run pins s σ H M I h1) fun b s' ⟨H', I', m⟩ => ⟨H', I', h2 b H' m⟩
theorem midT_of {t : TT} {σ : St} {H : Hp} {Q : Bool → Hp → Prop} (M : Bool → Hp → Prop) (h1 : t σ H fun b H' => Wait (M b H')) (h2 : ∀ b H', M b H' → Q b H') : tMidT t σ H Q := by
  unfold tMidT
  exact ⟨fun b H' => Wait (M b H'), h1, fun b H' m => h2 b H' m.out⟩
/-- an expression whose ways are joined -/
@[irreducible] def tMidE (t : TE) : TE := fun σ H Q => ∃ M : V → Hp → Prop, t σ H M ∧ ∀ b H', M b H' → Q b H'
theorem pe_mid {X : Cx} {e : Expr} {t : TE} (h : PE X e t) : PE X e (tMidE t) := by
  refine ⟨fun pins s σ H Q I q => ?_⟩
  unfold tMidE at q
  obtain ⟨M, h1, h2⟩ := q
  exact thn (h.run pins s σ H M I h1) fun b s' ⟨v, H', I', r, m⟩ => ⟨v, H', I', r, h2 v H' m⟩
theorem midE_of {t : TE} {σ : St} {H : Hp} {Q : VK} (M : V → Hp → Prop) (h1 : t σ H fun b H' => Wait (M b H')) (h2 : ∀ b H', M b H' → Q b H') : tMidE t σ H Q := by
  unfold tMidE
  exact ⟨fun b H' => Wait (M b H'), h1, fun b H' m => h2 b H' m.out⟩
/-- for a, b in zip(xs, ys), lists of one length -/
theorem forZ {K : PySem.W.Frag} {a b : Addr} {xs ys : List V} {g : TG} {tb : TS} {D : Ends} {σ : St} {H : Hp} (hl : xs.length = ys.length) (Pv : Nat → St → Hp → Prop) (h0 : Pv 0 σ H) (hq : ∀ i σ H, Pv i σ H → SqL K H a xs ∧ SqL K H b ys)
    (hs : ∀ (i : Nat) (x y : V) (t : Addr) (σ : St) (H : Hp), xs[i]? = some x → ys[i]? = some y → Pv i σ H → H t = none →
      g (.ref t) σ (upd H t (.tup [x, y])) fun σ2 H2 => tb { D with nx := fun σ H => Wait (Pv (i + 1) σ H), ct := fun σ H => Wait (Pv (i + 1) σ H), bk := D.nx } σ2 H2) (hd : ∀ σ H, Pv xs.length σ H → D.nx σ H) :
    ∃ W : Nat → Nat → St → Hp → Prop, (∃ m, W 0 m σ H) ∧ ∀ i m σ H, W i m σ H →
      ((Itz K a b).stop i H ∧ D.nx σ H) ∨ ((Itz K a b).go i H ∧ ∃ N : St → Hp → Prop, (∀ σ' H', N σ' H' → ∃ m', m' < m ∧ W (i + 1) m' σ' H') ∧ ∀ v H', (Itz K a b).yld i H v H' → g v σ H' fun σ2 H2 => tb { D with nx := N, ct := N, bk := D.nx } σ2 H2) := by
  refine ⟨fun i m σ H => m = xs.length - i ∧ i ≤ xs.length ∧ Wait (Pv i σ H), ⟨xs.length, by simp, Nat.zero_le _, wait h0⟩, ?_⟩
  rintro i m σ H ⟨rfl, hi, p⟩
  obtain ⟨q1, q2⟩ := hq i σ H p.out
  by_cases hlt : i < xs.length
  · have e1 : xs[i]? = some xs[i] := List.getElem?_eq_getElem hlt
    have e2 : ys[i]? = some ys[i] := List.getElem?_eq_getElem (by omega)
    refine .inr ⟨⟨xs, ys, _, _, q1, q2, e1, e2⟩, fun σ H => Wait (Pv (i + 1) σ H), fun σ' H' p' => ⟨xs.length - (i + 1), by omega, rfl, hlt, p'⟩, fun v H' y => ?_⟩
    obtain ⟨t, x, z, rfl, ht, rfl, f1, f2⟩ := y
    exact hs i x z t σ H (f1 xs q1) (f2 ys q2) p.out ht
  · have e : i = xs.length := by omega
    subst e
    exact .inl ⟨⟨xs, ys, q1, q2, .inl (Nat.le_refl _)⟩, hd σ H p.out⟩
end L2
set_option Elab.async false
set_option linter.all false
set_option maxRecDepth 100000
set_option maxHeartbeats 4000000
/-! Rules for own errors: methods that may raise within a try, several clauses with names, isinstance of an error that has fields. -/
namespace PySem.W
open PySem PySem.Spec PySem.Calls PyProof.Rows
section
variable {prog : Program} {w : World} {A : Around} {E : Value → Shared → Prop} {s : Shared} {K : Frag} {x D : Addr} {ox od : Obj}
/-- e.__class__ of an error with a dict of its own -/
theorem pf_class {Q : Option Value → Shared → Prop} (C : L2.ExcC K D) (X : K.In s.heap) (I : InstAt s.heap x ox D (some od)) (h : Q (some (.ref D)) { s with toks := s.toks + 1 }) :
    wpAny (model prog w) A (getAttr? (.ref x) "__class__") Q E s := by
  obtain ⟨cd, hcd, _⟩ := any_some C.hd
  have hfo : findObj K D (some od) "__class__" = some (.bind (.builtin "getset_descriptor.__get__") (.builtin "object.__class__")) := findObj_data (by rw [hcd]; rfl) C.ha C.hn C.ht
  obtain ⟨hp, g, dr, t, os⟩ := s
  have lt := I.type (M := model prog w)
  have lg := looks_findIn (M := model prog w) X C.hg
  have lh := looks_findIn (M := model prog w) X C.hk
  have lf := looks_find (M := model prog w) X I hfo
  have lb : Looks (model prog w) hp (isInstance (.ref x) (.type "BaseException")) true := lt.andThen (looks_subIn X C.hs)
  have b2 : (Value.builtin "BaseException.__getattribute__" == Value.builtin "object.__getattribute__") = false := by decide +kernel
  unfold getAttr? getAttrBy? getAttrBy
  refine wpAny_bind (wpAny_mkText (wpAny_bind (wpAny_attempt (wpAny_holding (wpAny_bind (lt.at (wpAny_bind (lg.at ?_))))))))
  show wpAny _ _ (if (onTheHeap (Value.ref D) && Value.builtin "BaseException.__getattribute__" == Value.builtin "object.__getattribute__") = true then _ else _) _ _ _
  rw [b2, Bool.and_false, if_neg Bool.false_ne_true]
  unfold getAttrByItsOwn hookBefore
  refine wpAny_bind ?_
  rw [if_pos (show onTheHeap (Value.ref D) = true from rfl)]
  refine lh.at (wpAny_bind (wpAny_attempt (wpAny_holding ?_)))
  unfold callGetattribute
  rw [if_neg (show ¬ (false && onTheHeap (Value.builtin "BaseException.__getattribute__")) = true from Bool.false_ne_true)]
  unfold boundAndCalled
  rw [PySem.F.excAttr_ValueError.ga.bind (.ref x)]
  refine wpAny_bind (wpAny_pure ?_)
  show wpAny _ _ (call (.builtin "BaseException.__getattribute__") [.ref x, .str "__class__" t]) _ _ _
  refine wpAny_call (codeAny_call_builtin PySem.F.excAttr_ValueError.ga.plain PySem.F.entry_bexc_ga ?_)
  refine @check_slot (model prog w) _ _ ⟨hp, g, dr, t + 1, os⟩ "BaseException.__getattribute__" "BaseException" "__getattribute__" (.ref x) [.str "__class__" t] [] _ (by decide +kernel) (by decide +kernel) lb (PySem.F.args_bexc_ga (.ref x) (.str "__class__" t)) ?_
  unfold Builtin.«object.__getattribute__»
  refine wpAny_bind (wpAny_of_eq (a := ((Value.ref x : Value), [Value.str "__class__" t])) (by first | rfl | (simp only [slotArgs]; rfl)) ?_)
  refine wpAny_bind (wpAny_pure (wpAny_bind (lt.at (wpAny_bind (lf.at ?_)))))
  show wpAny _ _ (holding [Value.builtin "object.__class__"] (call (.builtin "getset_descriptor.__get__") [.builtin "object.__class__", .ref x, .ref D]) >>= ret) _ _ _
  refine wpAny_bind (wpAny_holding (wpAny_call (class_get (s := ⟨hp, g, dr, t + 1, os⟩) (ox := ox) (od := some od) X I C.hm ?_)))
  refine wpAny_pure ?_
  show wpAny _ _ (handedOut (.ref D)) _ _ _
  rw [handedOut_of (v := .ref D) rfl]
  first
    | exact wpAny_pure (wpAny_pure h)
    | exact wpAny_pure h
    | exact wpAny_pure (wpAny_bind (wpAny_pure (wpAny_pure h)))
theorem pf_kitx (C : L2.ExcC K D) : KitX K (.ref x) (.ref D) (fun h => InstAt h x ox D (some od)) := by
  obtain ⟨cd, hcd, _⟩ := any_some C.hd
  have hob : ∃ o sl c dd, K.lookup D = some ⟨c, dd, .cls o, sl⟩ := by
    unfold clsIn at hcd
    split at hcd
    · rename_i c' d' cd' sl' ho
      exact ⟨_, _, _, _, ho⟩
    · cases hcd
  obtain ⟨cl, sl, c, dd, hl⟩ := hob
  refine ⟨fun _ _ _ I => I.type, fun _ _ X _ => ?_, fun h tp d' its n sl' X htp => ?_, fun X I k => pf_class C X I k⟩
  · intro A' Q' E' s' k q
    unfold isType loadHead
    exact wpAny_bind (wpAny_loadPart (k _ _ (X _ _ hl)) (wpAny_pure q))
  · refine Bool.eq_false_iff.mpr fun q => ?_
    have e : D = tp := Value.ref.inj (beq_iff_eq.mp q)
    subst e
    have z := (X _ _ hl).symm.trans htp
    cases z
end
end PySem.W
namespace L2
open PySem PySem.Spec PyProof.Rows
section
variable {X : Cx} {CX : CXT} {k : Nat} {f C : Addr} {fd : FuncData} {ps : List Str} {sp : Sp} {E : St → XK} {x m : Str} {p pos apos : Pos} {e o : Expr} {es : List Expr} {ta : TE} {t : TA}
/-- o.m(e, ..), what is raised is wished for at the slots -/
def tMethW (C : Addr) (m : Str) (sp : Sp) (E : St → XK) (ta : TE) (t : TA) : TE := fun σ H Q => ta σ H fun x H1 => ∃ a dx fs, x = .ref a ∧ H1 a = some (.ins C dx fs) ∧ fs.lookup m = none ∧ t σ H1 fun vs H2 => sp (x :: vs) H2 Q (E σ)
theorem pe_methW {pl : Sem Bool} (he : PE X o ta) (c : Cls X.K C) (hm : Meth X.K C m f) (F : FnOk X.prog X.w X.K X.mg X.base CX k f fd ps sp) (hr : Room k X.A) (hb : Binds X.K fd ps []) (hx : ∀ σ, PassesAt CX X σ (E σ)) (ha : PA X (e :: es) t)
    (hst : starEach (e :: es) X.env = (false, eval e X.env) :: starEach es X.env := by rfl) (hpl : (backTo pos (starEach es X.env)).any (·.1) = false := by rfl)
    (ht : eval (.Call (.Attribute o m apos) (e :: es) [] pos) X.env = (do
      let ov ← eval o X.env
      standAt apos.atName
      let (f, first) ← holding [ov] (getMethod ov m pl)
      callWith pos f first (backTo pos (starEach (e :: es) X.env)) (backToKw pos (keywordEach [] X.env))) := by rfl) :
    PE X (.Call (.Attribute o m apos) (e :: es) [] pos) (tMethW C m sp E ta t) := by
  refine ⟨fun pins s σ H Q I h => ?_⟩
  refine PySem.W.methodCall_KW (pl := pl) (thn (he.run pins s σ H _ I h) fun u s1 ⟨x, H1, I1, rx, a, dx, fs, ex, ea, l, q⟩ => ?_) ht
  subst ex
  obtain rfl : u = Value.ref a := rx
  refine getmeth_ok I1 ea c hm l ?_
  refine PySem.W.callWith_K (first := [.ref a]) (h₀ := X.base) I.ok.mod.kin hm.kp (thn (ha.run pos pins s1 σ H1 _ I1 q) fun us s2 ⟨vs, H2, I2, r, q2⟩ => ⟨I2.kIn, ?_⟩) hst hpl
  exact run_fnS (us := .ref a :: us) (vs := .ref a :: vs) F hr hb (hx σ) I2 (.cons rfl r) q2
end
/-! ### walks of any kind, with Wait -/
theorem forW {J : It} {n : Nat} {G : Hp → Prop} {Y : Nat → Hp → V → Hp → Prop} (w : Walk J n G Y) {g : TG} {tb : TS} {D : Ends} {σ : St} {H : Hp} (Pv : Nat → St → Hp → Prop) (h0 : Pv 0 σ H) (hG : ∀ i σ H, i ≤ n → Pv i σ H → G H)
    (hs : ∀ i x σ H H', i < n → Pv i σ H → Y i H x H' → g x σ H' fun σ2 H2 => tb { D with nx := fun σ H => Wait (Pv (i + 1) σ H), ct := fun σ H => Wait (Pv (i + 1) σ H), bk := D.nx } σ2 H2) (hd : ∀ σ H, Pv n σ H → D.nx σ H) :
    ∃ W : Nat → Nat → St → Hp → Prop, (∃ m, W 0 m σ H) ∧ ∀ i m σ H, W i m σ H →
      (J.stop i H ∧ D.nx σ H) ∨ (J.go i H ∧ ∃ N : St → Hp → Prop, (∀ σ' H', N σ' H' → ∃ m', m' < m ∧ W (i + 1) m' σ' H') ∧ ∀ x H', J.yld i H x H' → g x σ H' fun σ2 H2 => tb { D with nx := N, ct := N, bk := D.nx } σ2 H2) :=
  for_it w (fun i σ H => Wait (Pv i σ H)) (wait h0) (fun i σ H hi p => hG i σ H hi p.out) (fun i x σ H H' hi p y => hs i x σ H H' hi p.out y) fun σ H p => hd σ H p.out
theorem lcW {J : It} {n : Nat} {G : Hp → Prop} {Y : Nat → Hp → V → Hp → Prop} (w : Walk J n G Y) {g : TG} {tt : TT} {te : TE} {vs : List Nat} {σ : St} {H1 : Hp} {D : Addr} {Qd : Hp → Prop} (Pv : Nat → Hp → Prop) (h0 : Pv 0 (upd H1 D (.lst []))) (hG : ∀ i H, i ≤ n → Pv i H → G H)
    (hs : ∀ i x H H', i < n → Pv i H → Y i H x H' → g x (wipe σ vs) H' fun σ2 H2 => wipe σ2 vs = wipe σ vs ∧ tt σ2 H2 fun b H3 =>
      if b = true then te σ2 H3 fun y H4 => ∃ acc, H4 D = some (.lst acc) ∧ acc.length < sizeLine ∧ Wait (Pv (i + 1) (upd H4 D (.lst (acc ++ [y])))) else Wait (Pv (i + 1) H3)) (hd : ∀ H, Pv n H → Qd H) :
    ∃ W : Nat → Nat → Hp → Prop, (∃ m, W 0 m (upd H1 D (.lst []))) ∧ ∀ i m H, W i m H →
      (J.stop i H ∧ Qd H) ∨ (J.go i H ∧ ∃ Nx : Hp → Prop, (∀ H', Nx H' → ∃ m', m' < m ∧ W (i + 1) m' H') ∧ ∀ x H', J.yld i H x H' → g x (wipe σ vs) H' fun σ2 H2 => wipe σ2 vs = wipe σ vs ∧ tt σ2 H2 fun b H3 =>
        if b = true then te σ2 H3 fun y H4 => ∃ acc, H4 D = some (.lst acc) ∧ acc.length < sizeLine ∧ Nx (upd H4 D (.lst (acc ++ [y]))) else Nx H3) :=
  lc_it w (fun i H => Wait (Pv i H)) (wait h0) (fun i H hi p => hG i H hi p.out) (fun i x H H' hi p y => hs i x H H' hi p.out y) fun H p => hd H p.out
/-! ### keywords -/
def kbGn (n : Nat) (us ws : List Value) : List Value := if us.length = n then us ++ ws else []
def kbVn (n : Nat) (us ws : List V) : List V := if us.length = n then us ++ ws else []
theorem kb_ofn {K : PySem.W.Frag} {x qual : Str} {st : Stmt} {f : Addr} {fd : FuncData} {ps ks : List Str} {n m : Nat} (F : Fun K x qual st f fd) (hp : ps.length = n + m) (h0 : 0 < n + m)
    (h : ∀ (kV doc pm : Value) (an : Option Addr) (cdv ct : Value) (us ws : List Value), us.length = n → ws.length = m → bindArgs (PySem.W.fnOf x qual (defArgs st) (defBody st) (defScope st) .none kV doc pm an cdv ct) ⟨us, ks.zip ws⟩ = pure (ps.zip (us ++ ws))) : KBinds K fd ps ks (kbGn n) (kbVn n) := by
  obtain ⟨oc, od, kV, doc, pm, an, cdv, ct, osl, rfl, lk, hcd⟩ := F.ex
  constructor
  · intro s us ws _ hl
    by_cases e : us.length = n
    · have hg : kbGn n us ws = us ++ ws := if_pos e
      rw [hg] at hl ⊢
      rw [List.length_append, e, hp] at hl
      exact .of_eq (h kV doc pm an cdv ct us ws e (by omega))
    · have hg : kbGn n us ws = [] := if_neg e
      rw [hg, hp] at hl
      have : 0 = n + m := hl
      omega
  · intro vs us zs ws r1 r2
    have hl := r1.length
    by_cases e : us.length = n
    · rw [show kbGn n us ws = us ++ ws from if_pos e, show kbVn n vs zs = vs ++ zs from if_pos (hl.trans e)]
      exact r1.append r2
    · rw [show kbGn n us ws = [] from if_neg e, show kbVn n vs zs = [] from if_neg (fun z => e (hl.symm.trans z))]
      exact .nil
section
variable {X : Cx} {CX : CXT} {k : Nat} {f C : Addr} {fd : FuncData} {ps ks : List Str} {sp : Sp} {E : St → XK} {x m : Str} {p pos apos kpos : Pos} {e o : Expr} {es : List Expr} {kws : List Keyword} {te ta : TE} {t tk : TA} {nm : Option Str}
variable {g : List Value → List Value → List Value} {gV : List V → List V → List V}
theorem run_fnkS {pins : List (Addr × Obj)} {σ : St} {H : Hp} {s : Shared} {Q : VK} {us ws : List Value} {vs zs : List V} (F : FnOk X.prog X.w X.K X.mg X.base CX k f fd ps sp) (hr : Room k X.A) (hb : KBinds X.K fd ps ks g gV) (hx : PassesAt CX X σ (E σ))
    (I : Inv X pins σ H s) (r : Vals vs us) (rz : Vals zs ws) (h : sp (gV vs zs) H Q (E σ)) : wpAny (model X.prog X.w) X.A (call (.ref f) us (ks.zip ws)) (EP X pins σ Q) X.xe s := by
  have r2 := hb.rel r rz
  have hl : (g us ws).length = ps.length := by rw [← r2.length]; exact F.len _ _ _ _ h
  refine wpAny_call (codeAny_mono (F.run X.A X.stack s H ⟨us, ks.zip ws⟩ (g us ws) (gV vs zs) Q (E σ) hr I.env0 (hb.to s us ws I.kIn hl) r2 h) fun r s' hq => ?_)
  cases r with
  | error e => exact hx pins H s e s' I hq
  | ok fl =>
    cases fl with
    | ret u => exact I.after hq
    | next => exact False.elim hq
    | brk => exact False.elim hq
    | cont => exact False.elim hq
/-- o.m(e, .., k = v), what is raised is wished for at the slots -/
def tMethKW (C : Addr) (m : Str) (sp : Sp) (gV : List V → List V → List V) (E : St → XK) (ta : TE) (t tk : TA) : TE := fun σ H Q => ta σ H fun x H1 => ∃ a dx fs, x = .ref a ∧ H1 a = some (.ins C dx fs) ∧ fs.lookup m = none ∧
  t σ H1 fun vs H2 => tk σ H2 fun zs H3 => sp (gV (x :: vs) zs) H3 Q (E σ)
theorem pe_methKW {pl : Sem Bool} (he : PE X o ta) (c : Cls X.K C) (hm : Meth X.K C m f) (F : FnOk X.prog X.w X.K X.mg X.base CX k f fd ps sp) (hr : Room k X.A) (hb : KBinds X.K fd ps ks g gV) (hx : ∀ σ, PassesAt CX X σ (E σ)) (ha : PA X (e :: es) t) (hkw : PK X kws tk)
    (hall : (backToKw pos (keywordEach kws X.env)).all (·.1.isSome) = true := by rfl) (hks : (backToKw pos (keywordEach kws X.env)).filterMap (·.1) = ks := by rfl)
    (hst : starEach (e :: es) X.env = (false, eval e X.env) :: starEach es X.env := by rfl)
    (hpl : ((backTo pos (starEach (e :: es) X.env)).any (·.1) || (backToKw pos (keywordEach kws X.env)).any (·.1.isNone)) = false := by rfl)
    (ht : eval (.Call (.Attribute o m apos) (e :: es) kws pos) X.env = (do
      let ov ← eval o X.env
      standAt apos.atName
      let (f, first) ← holding [ov] (getMethod ov m pl)
      callWith pos f first (backTo pos (starEach (e :: es) X.env)) (backToKw pos (keywordEach kws X.env))) := by rfl) :
    PE X (.Call (.Attribute o m apos) (e :: es) kws pos) (tMethKW C m sp gV E ta t tk) := by
  refine ⟨fun pins s σ H Q I h => ?_⟩
  refine PySem.W.methodCall_KW (pl := pl) (thn (he.run pins s σ H _ I h) fun u s1 ⟨x, H1, I1, rx, a, dx, fs, ex, ea, l, q⟩ => ?_) ht
  subst ex
  obtain rfl : u = Value.ref a := rx
  refine getmeth_ok I1 ea c hm l ?_
  refine PySem.W.callWith_KW (first := [.ref a]) (h₀ := X.base) I.ok.mod.kin hm.kp hall (thn (ha.run pos pins s1 σ H1 _ I1 q) fun us s2 ⟨vs, H2, I2, r, q2⟩ => ?_) hpl hst
  refine thn (hkw.run pos pins s2 σ H2 _ I2 q2) fun ws s3 ⟨zs, H3, I3, rz, q3⟩ => ⟨I3.kIn, ?_⟩
  rw [hks]
  exact run_fnkS (us := .ref a :: us) (vs := .ref a :: vs) F hr hb (hx σ) I3 (.cons rfl r) rz q3
end
/-- isinstance(e, c), e the error that the suite holds, of the class at D, its fields at dd -/
def rIsX (K : PySem.W.Frag) (D a dd : Addr) : List V → Hp → VK → Prop := fun xs H Q => ∃ (c : V) (cv : Value) (b : Bool) (fs : List (Str × V)), xs = [.ref a, c] ∧ (∀ u, RelV c u → u = cv) ∧ H dd = some (.xd fs) ∧ PySem.W.kitOne K (.ref D) cv = some b ∧ Q (.bl b) H
theorem call_isX {X : Cx} {a D dd : Addr} {oe : Obj} {pn : List (Addr × Obj)} (C : ExcC X.K D) (hz : Zc (.ref D) (some dd) oe) (hf : ∃ vs, oe.data = .fields vs) : CallR (X.suite a ((a, oe) :: pn)) (.builtin "isinstance") (rIsX X.K D a dd) := by
  intro pins s σ H xs us Q I r h
  obtain ⟨c, cv, b, fs, rfl, hcv, hx, e, q⟩ := h
  obtain ⟨u1, u2, rfl, r1, r2⟩ := vals2 r
  cases r1
  have ec := hcv _ r2
  subst ec
  obtain ⟨hget, _⟩ := I.pin (a, oe) (List.mem_append.mpr (.inl List.mem_cons_self))
  obtain ⟨vs, hv⟩ := hf
  obtain ⟨mA, ⟨od, es, ep, ho, _⟩, _⟩ := (show ObjOk X.prog X.w H s.heap dd (.xd fs) from I.hok dd _ hx)
  have J : PySem.W.InstAt s.heap a oe D (some od) := ⟨hget, hz.1, by unfold PySem.W.notCls; rw [hv] <;> rfl, by rw [hz.2]; exact ho⟩
  exact PySem.W.kia_one (PySem.W.pf_kitx C) I.kIn J e (fun z => nomatch z) fun tk => ⟨.bl b, H, I.kept (t' := tk) fun _ _ z => z, rfl, q⟩
/-- .. whatever class it has -/
def rIsW (K : PySem.W.Frag) (a : Addr) (cls : Value) (d : Option Addr) : List V → Hp → VK → Prop := fun xs H Q => ∃ D dd : Addr, cls = .ref D ∧ d = some dd ∧ ExcC K D ∧ rIsX K D a dd xs H Q
theorem call_isW {X : Cx} {a : Addr} {oe : Obj} {cls : Value} {d : Option Addr} {pn : List (Addr × Obj)} (hz : Zc cls d oe) (hf : ∃ vs, oe.data = .fields vs) : CallR (X.suite a ((a, oe) :: pn)) (.builtin "isinstance") (rIsW X.K a cls d) := by
  intro pins s σ H xs us Q I r h
  obtain ⟨D, dd, rfl, rfl, C, h⟩ := h
  exact call_isX C hz hf pins s σ H xs us Q I r h
theorem kit_exm {K : PySem.W.Frag} {A B : Addr} {b : Bool} (h1 : PySem.W.exmOne K (.ref A) (.ref A) = some true) (h2 : PySem.W.exmOne K (.ref A) (.ref B) = some b) : PySem.W.kitOne K (.ref A) (.ref B) = some b := by
  unfold PySem.W.kitOne
  by_cases e : A = B
  · subst e
    rw [h1] at h2
    rw [if_pos (by simp)]
    exact h2
  · rw [if_neg (by simpa using e)]
    unfold PySem.W.exmOne at h2
    split at h2
    · exact h2
    · cases h2
theorem kit_bl {K : PySem.W.Frag} {A : Addr} {T : String} {b : Bool} (h1 : PySem.W.subIn K (.ref A) (.type T) = some b) (h2 : PySem.W.kitMeta T = true) : PySem.W.kitOne K (.ref A) (.type T) = some b := by
  unfold PySem.W.kitOne
  rw [if_neg (by simp)]
  show (if PySem.W.kitMeta T = true then PySem.W.subIn K (.ref A) (.type T) else none) = some b
  rw [if_pos h2]
  exact h1
/-! ### several clauses, each with a name or without one -/
structure Cl where
  c : Value
  i : Option Nat
  ts : Addr → Value → Option Addr → TS
def Cl.at (cl : Cl) (a : Addr) (cls : Value) (d : Option Addr) (D : Ends) (σ : St) (H : Hp) : Prop := match cl.i with
  | none => cl.ts a cls d D σ H
  | some i => cl.ts a cls d { nx := fun σ' H' => D.nx (σ'.set i none) H', rt := D.rt, bk := fun σ' H' => D.bk (σ'.set i none) H', ct := fun σ' H' => D.ct (σ'.set i none) H' } (σ.set i (some (.ref a))) H
def wCls (K : PySem.W.Frag) (Wout : WX) (D : Ends) : List Cl → WX
  | [] => Wout
  | cl :: r => fun cls d σ H => ∃ b, PySem.W.exmOne K cls cl.c = some b ∧ (b = true → ∀ a, H a = none → cl.at a cls d D σ H) ∧ (b = false → wCls K Wout D r cls d σ H)
inductive ClsOk (X : Cx) : List ExceptHandler → List Cl → Prop
  | nil : ClsOk X [] []
  | plain {x : Str} {c : Value} {ts : Addr → Value → Option Addr → TS} {b₀ : Stmt} {suite : List Stmt} {np pos' : Pos} {hds : List ExceptHandler} {l : List Cl} (hc : Names X x c)
      (hsu : ∀ (a : Addr) (oe : Obj) (cls : Value) (d : Option Addr) (pn : List (Addr × Obj)), Zc cls d oe → (∃ vs, oe.data = .fields vs) → PSs (X.suite a ((a, oe) :: pn)) (b₀ :: suite) (ts a cls d)) (r : ClsOk X hds l) :
      ClsOk X (.ExceptHandler (some (.Name x np)) none (b₀ :: suite) pos' :: hds) (⟨c, none, ts⟩ :: l)
  | named {x n : Str} {i : Nat} {c : Value} {ts : Addr → Value → Option Addr → TS} {b₀ : Stmt} {suite : List Stmt} {np pos' : Pos} {hds : List ExceptHandler} {l : List Cl} (hN : X.N.Nodup) (hi : X.N[i]? = some n) (hln : X.env.kindOf n = some .local) (hc : Names X x c)
      (hsu : ∀ (a : Addr) (oe : Obj) (cls : Value) (d : Option Addr) (pn : List (Addr × Obj)), Zc cls d oe → (∃ vs, oe.data = .fields vs) → PSs (X.suite a ((a, oe) :: pn)) (b₀ :: suite) (ts a cls d)) (r : ClsOk X hds l) :
      ClsOk X (.ExceptHandler (some (.Name x np)) (some n) (b₀ :: suite) pos' :: hds) (⟨c, some i, ts⟩ :: l)
section
variable {X : Cx} {body : List Stmt} {h₀ : ExceptHandler} {hds : List ExceptHandler} {l : List Cl} {pos : Pos} {tb : WX → TS} {Wout : WX}
/-- the error stands on the ground ahead of the clauses -/
structure Ground (X : Cx) (pins : List (Addr × Obj)) (a : Addr) (B : Heap) (sI s' : Shared) (h3 : Heap) (σ : St) (H : Hp) (cls : Value) (d : Option Addr) : Prop where
  J : Inv X pins σ H sI
  nb : ∀ b o, sI.heap.get? b = some o → b ∉ frs X.stack → B.get? b = some o
  up : sI.heap.UpToSlots h3
  fl : HandSPX.FlyingZ B (X.env :: X.outer) a (Zc cls d) h3
  na : H a = none
  os : s'.os = sI.os
  ag : AllBare s'.gens
theorem Ground.inv {pins : List (Addr × Obj)} {a : Addr} {B : Heap} {sI s' : Shared} {h3 : Heap} {σ : St} {H : Hp} {cls : Value} {d : Option Addr} (G : Ground X pins a B sI s' h3 σ H cls d) : Inv X pins σ H { s' with heap := h3 } :=
  G.J.landed G.nb G.fl.1 G.up G.os G.ag
theorem Ground.off {pins : List (Addr × Obj)} {a : Addr} {B : Heap} {sI s' : Shared} {h3 : Heap} {σ : St} {H : Hp} {cls : Value} {d : Option Addr} (G : Ground X pins a B sI s' h3 σ H cls d) (hf : X.env.frame = some X.env.locals) : a ≠ X.env.locals ∧ a ∉ X.fs := by
  obtain ⟨oe, vs, he, _, hd⟩ := G.fl.there
  have nfr : a ∉ frs (X.env :: X.outer) := fun hm => by
    obtain ⟨_, o', e', hnf⟩ := G.fl.2.2.1.mem hm
    rw [he] at e'
    cases e'
    exact hnf _ hd
  refine ⟨fun z => nfr (List.mem_filterMap.mpr ⟨X.env, List.mem_cons_self, by rw [hf, z]⟩), fun hm => ?_⟩
  obtain ⟨ev, hev, q⟩ := List.mem_filterMap.mp hm
  exact nfr (List.mem_filterMap.mpr ⟨ev, List.mem_cons_of_mem _ hev, q⟩)
theorem clauses (hs : X.stack = X.env :: X.outer) (hf : X.env.frame = some X.env.locals) (tk : Takes X Wout) {pins : List (Addr × Obj)} {a : Addr} {B : Heap} {sI s' : Shared} {h3 : Heap} {σ : St} {H : Hp} {cls : Value} {d : Option Addr} {D : Ends}
    (G : Ground X pins a B sI s' h3 σ H cls d) (ok : X.Ok) {hds : List ExceptHandler} {l : List Cl} (hk : ClsOk X hds l) (w : wCls X.K Wout D l cls d σ H) :
    wpAny (model X.prog X.w) X.A (handleBy (.ref a) X.env hds) (SP X pins D) X.xe { s' with heap := h3 } := by
  obtain ⟨nL, nF⟩ := G.off hf
  have J3 := G.inv
  obtain ⟨oe3, vs3, he3, hz3, hd3⟩ := G.fl.there
  have S3 := J3.suite he3 hd3 G.na nL nF
  have LT : PySem.W.Looks (model X.prog X.w) h3 (typeOf (.ref a)) cls := fun A Q E s k q => wpAny_typeOf_ref (k _ _ he3) (by rw [hz3.1]; exact q)
  have name : ∀ {x : Str} {c : Value} {np : Pos} {Q : Value → Shared → Prop} {E : Value → Shared → Prop}, Names X x c → Q c { s' with heap := h3 } → wpAny (model X.prog X.w) (X.A.mark (some (.ref a))) (eval (.Name x np) X.env) Q E { s' with heap := h3 } := fun {x c np Q E} hc q => by
    obtain ⟨hg, hdbg, hm | ⟨hm, hv, hnn⟩⟩ := hc
    · exact ld_glob (X := X.suite a ((a, oe3) :: (X.pn ++ pins))) S3 hg hm q hdbg
    · exact ld_blt (X := X.suite a ((a, oe3) :: (X.pn ++ pins))) S3 hg hm hv q hnn hdbg
  have again : ∀ {h4 : Heap}, HandSPX.FlyingZ B (X.env :: X.outer) a (Zc cls d) h4 → Heap.UpToSlots h3 h4 → ∃ oe4 vs4, Zc cls d oe4 ∧ oe4.data = .fields vs4 ∧ Inv (X.suite a ((a, oe4) :: (X.pn ++ pins))) [] σ H { s' with heap := h4 } := fun {h4} fl4 up4 => by
    have J4 : Inv X pins σ H { s' with heap := h4 } := G.J.landed G.nb fl4.1 (G.up.trans up4) G.os G.ag
    obtain ⟨oe4, vs4, he4, hz4, hd4⟩ := fl4.there
    exact ⟨oe4, vs4, hz4, hd4, J4.suite he4 hd4 G.na nL nF⟩
  induction hk with
  | nil =>
    refine wpAny_handleBy_nil ?_
    obtain ⟨k1, k2, k3, oe, vs, T, oT, ts', he, hz, hd, h1, hr⟩ := id G.fl
    unfold PySem.passOn
    refine wpAny_bind (wpAny_field he hd h1 ?_)
    rw [if_neg (show ¬ ((Value.ref T == Value.none) = true) from by simp)]
    have fin : wpAny (model X.prog X.w) X.A (setFlight (.ref a) X.env.frame) (fun _ s4 => wpAny (model X.prog X.w) X.A (throw (.ref a) : Sem Flow) (SP X pins D) X.xe s4) X.xe { s' with heap := h3 } := by
      rw [hf]
      refine HandSPX.setFlight_upZ G.fl fun h4 hh4 up4 => wpAny_throw (tk _ _ ?_)
      exact ⟨a, B, sI, pins, σ, H, cls, d, rfl, G.J, G.nb, G.up.trans up4, .inr (.inr (by rw [hs]; exact hh4)), G.na, G.os, G.ag, w⟩
    first
      | exact wpAny_bind (wpAny_pure (wpAny_bind fin))
      | exact wpAny_bind fin
  | @plain x c ts b₀ suite np pos' hds2 l2 hc hsu r ih =>
    obtain ⟨b, hb1, hyes, hno⟩ := w
    refine wpAny_handleBy_cons (codeAny_handlers_test ?_) (by intro q; cases q)
    refine name hc ((PySem.W.exm_one (M := model X.prog X.w) J3.kIn LT hb1).here ?_)
    cases b with
    | true =>
      refine codeAny_handlers_suite (HandSPX.lands_againZ G.fl fun h4 fl4 up4 => ?_)
      obtain ⟨oe4, vs4, hz4, hd4, S4⟩ := again fl4 up4
      refine wpAny_mono ((hsu a oe4 cls d (X.pn ++ pins) hz4 ⟨_, hd4⟩).run [] _ _ H _ S4 (hyes rfl a G.na)) (fun f s6 hsp => ?_) (fun _ _ z => False.elim z)
      cases f with
      | next => obtain ⟨σ6, H6, S6, q6⟩ := hsp; exact ⟨_, _, S6.unsuite ok, q6⟩
      | brk => obtain ⟨σ6, H6, S6, q6⟩ := hsp; exact ⟨_, _, S6.unsuite ok, q6⟩
      | cont => obtain ⟨σ6, H6, S6, q6⟩ := hsp; exact ⟨_, _, S6.unsuite ok, q6⟩
      | ret u => obtain ⟨v6, σ6, H6, S6, r6, q6⟩ := hsp; exact ⟨_, _, _, S6.unsuite ok, r6, q6⟩
    | false =>
      show wpAny _ X.A (handleBy (.ref a) X.env hds2) _ _ _
      exact ih (hno rfl)
  | @named x n i c ts b₀ suite np pos' hds2 l2 hN hi hln hc hsu r ih =>
    obtain ⟨b, hb1, hyes, hno⟩ := w
    refine wpAny_handleBy_cons (codeAny_handlers_test ?_) (by intro q; cases q)
    refine name hc ((PySem.W.exm_one (M := model X.prog X.w) J3.kIn LT hb1).here ?_)
    cases b with
    | true =>
      refine codeAny_handlers_suite_as (HandSPX.lands_againZ G.fl fun h4 fl4 up4 => ?_)
      obtain ⟨oe4, vs4, hz4, hd4, S4⟩ := again fl4 up4
      refine store_ok (X := X.suite a ((a, oe4) :: (X.pn ++ pins))) (v := .ref a) S4 hN hi (.inl hln) rfl (fun s5 S5 => ?_) (.inr hln)
      refine wpAny_mono ((hsu a oe4 cls d (X.pn ++ pins) hz4 ⟨_, hd4⟩).run [] s5 _ H _ S5 (hyes rfl a G.na)) (fun f s6 hsp => ?_) (fun _ _ z => False.elim z)
      have fin : ∀ {σ6 : St} {H6 : Hp} {Q : Shared → Prop}, Inv (X.suite a ((a, oe4) :: (X.pn ++ pins))) [] σ6 H6 s6 → (∀ s7, Inv X pins (σ6.set i none) H6 s7 → Q s7) →
          wpAny (model X.prog X.w) X.A (do bindName X.env n .none; unbindBehindTheSuite X.env n pos') (fun _ s7 => Q s7) X.xe s6 := fun {σ6 H6 Q} S6 hq => gone_ok (S6.unsuite ok) hN hi hln hq
      cases f with
      | next => obtain ⟨σ6, H6, S6, q6⟩ := hsp; exact fin S6 fun s7 J7 => ⟨_, _, J7, q6⟩
      | brk => obtain ⟨σ6, H6, S6, q6⟩ := hsp; exact fin S6 fun s7 J7 => ⟨_, _, J7, q6⟩
      | cont => obtain ⟨σ6, H6, S6, q6⟩ := hsp; exact fin S6 fun s7 J7 => ⟨_, _, J7, q6⟩
      | ret u => obtain ⟨v6, σ6, H6, S6, r6, q6⟩ := hsp; exact fin S6 fun s7 J7 => ⟨_, _, _, J7, r6, q6⟩
    | false =>
      show wpAny _ X.A (handleBy (.ref a) X.env hds2) _ _ _
      exact ih (hno rfl)
theorem ps_try_cls (hs : X.stack = X.env :: X.outer) (hf : X.env.frame = some X.env.locals) (tk : Takes X Wout)
    (hb : ∀ (W : WX) (pn : List (Addr × Obj)) (xe : Value → Shared → Prop), Takes (X.tr pn xe) W → PassesOwn (model X.prog X.w) X.A X.env xe → PSs (X.tr pn xe) body (tb W))
    (hh : ClsOk X (h₀ :: hds) l) : PS X (.Try body (h₀ :: hds) [] [] pos) (fun D σ H => tb (wCls X.K Wout D l) D σ H) := by
  refine ⟨fun pins s σ H D I h => ?_⟩
  have ok := I.ok
  have hfr : X.A.frames = some (X.env :: X.outer) := by rw [ok.frames, hs]
  refine wpAny_Try_except ?_
  refine wpAny_mono ((hb (wCls X.K Wout D l) (X.pn ++ pins) (fun e s₁ => wpAny (model X.prog X.w) X.A (noteFrame e X.env) (fun _ s₂ => wpAny (model X.prog X.w) X.A (setFlight e none) (fun _ s₃ =>
    wpAny (model X.prog X.w) X.A (handleBy e X.env (h₀ :: hds)) (SP X pins D) X.xe s₃) X.xe s₂) X.xe s₁) (fun u s' xx => ?_) PassesOwn.looking).run [] s σ H D (I.toTry _) h) (fun f s1 hsp => ?_) (fun e s1 he => he)
  · obtain ⟨a, B, sI, pins', σ', H', cls, d, rfl, J', nb, up, sky, na, os, ag, w⟩ := xx
    have sky' : Sky B (X.env :: X.outer) a (Zc cls d) X.env.locals s'.heap := by rw [← hs]; exact sky
    show wpAny (model X.prog X.w) X.A (noteFrame (.ref a) X.env) _ _ _
    refine Sky.land Zc.steady hfr hf sky' fun h3 fl3 up3 => ?_
    exact clauses hs hf tk ⟨J'.ofTry ok, nb, up.trans up3, fl3, na, os, ag⟩ ok hh w
  · cases f with
    | next => obtain ⟨σ', H', J', q⟩ := hsp; exact wpAny_execs_nil ⟨σ', H', J'.ofTry ok, q⟩
    | brk => obtain ⟨σ', H', J', q⟩ := hsp; exact ⟨σ', H', J'.ofTry ok, q⟩
    | cont => obtain ⟨σ', H', J', q⟩ := hsp; exact ⟨σ', H', J'.ofTry ok, q⟩
    | ret u => obtain ⟨v, σ', H', J', r, q⟩ := hsp; exact ⟨v, σ', H', J'.ofTry ok, r, q⟩
end
/-- an own error's __init__(self, x): self.f = x -/
def spErr (C : Addr) (f : Str) : Sp := fun vs H Q _ => ∃ (e : Addr) (v : V), vs = [.ref e, v] ∧ H e = some (exo e C none) ∧ ∀ d, H d = none → d ≠ e → Q .non (upd (upd H d (exd d [(f, v)])) e (exo e C (some d)))
/-- what a raise C(v) of such a class leaves: its dict is new -/
theorem raise_err {C : Addr} {f : Str} {v : V} {H : Hp} {W : Value → Option Addr → Hp → Prop} (h : ∀ d H', H d = none → H' d = some (.xd [(f, v)]) → Same H H' → W (.ref C) (some d) H') :
    [v].length ≤ 1000 ∧ ∀ a, H a = none → spErr C f (.ref a :: ([v] ++ [])) (upd H a (exo a C none))
      (fun u H2 => u = .non ∧ ∃ (d : Addr) (fs : List (Str × V)), H2 a = some (exo a C (some d)) ∧ H2 d = some (exd d fs) ∧ H d = none ∧ W (.ref C) (some d) (upd (del H2 a) d (.xd fs))) (fun _ _ _ => False) := by
  refine ⟨by show 1 ≤ 1000; decide, fun a ha => ⟨a, v, rfl, upd_same, fun d hd nd => ⟨rfl, d, [(f, v)], upd_same, ?_, ?_, ?_⟩⟩⟩
  · rw [upd_ne nd, upd_same]
  · rw [upd_ne nd] at hd
    exact hd
  · rw [upd_ne nd] at hd
    refine h d _ hd upd_same fun b o e => ?_
    have nb : b ≠ d := ne_of_none e hd
    have na : b ≠ a := ne_of_none e ha
    rw [upd_ne nb, del_ne na, upd_ne na, upd_ne nb, upd_ne na]
    exact e
section
variable {X : Cx}
/-- a module's constant -/
theorem pe_globI {x : Str} {n : Int} {pos : Pos} (hg : Gl X x) (hm : ∃ t, X.mg x = some (.int n t)) (hd : (x == ("__debug__" : Str)) = false := by decide) : PE X (.Name x pos) (tC (.int n)) := by
  obtain ⟨t, h⟩ := hm
  exact pe_glob hg h ⟨t, rfl⟩ hd
theorem pe_globS {x z : Str} {pos : Pos} (hg : Gl X x) (hm : ∃ t, X.mg x = some (.str z t)) (hd : (x == ("__debug__" : Str)) = false := by decide) : PE X (.Name x pos) (tC (.str z)) := by
  obtain ⟨t, h⟩ := hm
  exact pe_glob hg h ⟨t, rfl⟩ hd
/-- the walk stops ahead of a loop's turns -/
def iWait (w : TI) : TI := fun σ H R => w σ H fun J H1 => Wait (R J H1)
theorem pi_wait {tg iter : Expr} {w : TI} (h : PI X tg iter w) : PI X tg iter (iWait w) :=
  ⟨fun pins s σ H R I q => thn (h.run pins s σ H _ I q) fun v s1 h1 => thn h1 fun itv s2 ⟨it, fp, tn, J, H2, e, I2, T, st2, f2, r⟩ => ⟨it, fp, tn, J, H2, e, I2, T, st2, f2, r.out⟩⟩
end
end L2
set_option Elab.async false
set_option linter.all false
set_option maxRecDepth 100000
set_option maxHeartbeats 4000000
/-! len(set(t)) of texts; an object made within a try. -/
namespace PfS
open PySem PySem.Spec PyProof.Rows
/-- each text once, in the order in which they come -/
def uniq (ws : List Str) : List Str := ws.foldl (fun acc z => if z ∈ acc then acc else acc ++ [z]) []
theorem uniq_snoc (ws : List Str) (z : Str) : uniq (ws ++ [z]) = if z ∈ uniq ws then uniq ws else uniq ws ++ [z] := by
  unfold uniq
  rw [List.foldl_append] <;> rfl
theorem snoc_ind {α : Type} {p : List α → Prop} (h0 : p []) (hs : ∀ l x, p l → p (l ++ [x])) (l : List α) : p l := by
  have : ∀ r : List α, p r.reverse := fun r => by
    induction r with
    | nil => exact h0
    | cons x r ih =>
      rw [List.reverse_cons]
      exact hs _ _ ih
  have := this l.reverse
  rwa [List.reverse_reverse] at this
theorem mem_uniq (ws : List Str) : ∀ z, z ∈ uniq ws ↔ z ∈ ws := by
  refine snoc_ind (p := fun ws => ∀ z, z ∈ uniq ws ↔ z ∈ ws) (fun z => Iff.rfl) (fun l x ih z => ?_) ws
  rw [uniq_snoc]
  split
  · rename_i h
    rw [ih z, List.mem_append, List.mem_singleton]
    constructor
    · exact .inl
    · rintro (q | q)
      · exact q
      · rw [q]; exact (ih x).mp h
  · rw [List.mem_append, List.mem_append, ih z]
theorem uniq_le (ws : List Str) : (uniq ws).length ≤ ws.length := by
  refine snoc_ind (p := fun ws => (uniq ws).length ≤ ws.length) (Nat.le_refl _) (fun l x ih => ?_) ws
  rw [uniq_snoc, List.length_append]
  split
  · exact Nat.le_trans ih (Nat.le_add_right _ _)
  · rw [List.length_append]
    exact Nat.add_le_add_right ih _
theorem uniq_len (ws : List Str) : (uniq ws).length = ws.length ↔ ws.Nodup := by
  refine snoc_ind (p := fun ws => (uniq ws).length = ws.length ↔ ws.Nodup) ⟨fun _ => List.nodup_nil, fun _ => rfl⟩ (fun l x ih => ?_) ws
  rw [uniq_snoc, List.length_append]
  have hle := uniq_le l
  split
  · rename_i h
    have hx := (mem_uniq l x).mp h
    constructor
    · intro e
      exact absurd e (by show ¬ _ = _ + 1; omega)
    · intro nd
      rw [List.nodup_append] at nd
      exact absurd rfl (nd.2.2 x hx x List.mem_cons_self)
  · rename_i h
    have hx : x ∉ l := fun q => h ((mem_uniq l x).mpr q)
    rw [List.length_append]
    constructor
    · intro e
      have e2 : (uniq l).length = l.length := by
        have : (uniq l).length + 1 = l.length + 1 := e
        omega
      rw [List.nodup_append]
      refine ⟨ih.mp e2, List.nodup_cons.mpr ⟨(fun z => nomatch z), List.nodup_nil⟩, fun y hy z hz => ?_⟩
      rw [List.mem_singleton.mp hz]
      exact fun q => hx (q ▸ hy)
    · intro nd
      rw [List.nodup_append] at nd
      show (uniq l).length + 1 = l.length + 1
      rw [ih.mpr nd.1]
theorem any_uniq (ws : List Str) (z y : Str) : (ws.any (· == y) || decide (y = z)) = (ws ++ [z]).any (· == y) := by
  rw [List.any_append]
  by_cases e : y = z
  · subst e; simp
  · have hb : (z == y) = false := by simpa [beq_iff_eq] using (fun q : z = y => e q.symm)
    simp [hb, e]
section
variable {prog : Program} {w : World} {A : Around} {R : Result → Shared → Prop} {J : Addr} {fp wr : List Addr} {G : Array GenState → Array GenState → Prop} {n : Nat} {P : Nat → Value → Prop} {St : Nat → Shared → Prop}
/-- the loop of set.update over texts -/
theorem loopU (W : WalksS prog w A.in1 J fp wr G n P St) (S : Addr) (hSf : S ∉ fp) (ws : List Str) (hsz : ws.length = n) (hn1 : n ≤ 4000)
    (hval : ∀ i v, P i v → ∃ t, v = .str (ws.getD i Str.empty) t) :
    ∀ (k i : Nat) (s : Shared), n - i = k → i ≤ n → St i s → s.heap.SetOf (PySem.strKind prog w) S (fun y => (ws.take i).any (· == y)) (uniq (ws.take i)).length →
      (∀ s', Moved (S :: wr) G s s' → s'.heap.SetOf (PySem.strKind prog w) S (fun y => (ws.take n).any (· == y)) (uniq (ws.take n)).length → R (.ok (.ret .none)) s') →
      codeAny (model prog w) A (.builtin "set.update.loop" ⟨[.ref S, .ref J], []⟩) R s := by
  have hSw : S ∉ wr := fun q => hSf (W.sub _ q)
  have sub1 : ∀ b ∈ wr, b ∈ S :: wr := fun b q => List.mem_cons_of_mem _ q
  intro k
  induction k with
  | zero =>
    intro i s hk hi st hS hR
    have e : i = n := by omega
    subst e
    refine codeAny_builtin F.entry_set_update_loop ?_
    rw [Around.under_plainId F.plain_set_update_loop _]
    show wpAny _ A.in1 (pyNext (.ref J) >>= _) _ _ s
    refine wpAny_bind (W.done s _ _ st fun s1 mv => ?_)
    show wpAny _ A.in1 (ret Value.none) _ _ s1
    refine wpAny_pure (hR s1 (mv.mono sub1) ?_)
    obtain ⟨o, es, ep, tb, ho, q⟩ := hS
    exact ⟨o, es, ep, tb, mv.heap S _ hSw ho, q⟩
  | succ k ih =>
    intro i s hk hi st hS hR
    have lt : i < n := by omega
    refine codeAny_builtin F.entry_set_update_loop ?_
    rw [Around.under_plainId F.plain_set_update_loop _]
    show wpAny _ A.in1 (pyNext (.ref J) >>= _) _ _ s
    refine wpAny_bind (W.item i s _ _ lt st fun v s1 hP st1 mv => ?_)
    obtain ⟨t, rfl⟩ := hval i v hP
    obtain ⟨z, ez⟩ : ∃ z, z = ws.getD i Str.empty := ⟨_, rfl⟩
    rw [← ez]
    have hz : ws[i]? = some z := by
      rw [ez, List.getD_eq_getElem?_getD, List.getElem?_eq_getElem (by omega)] <;> rfl
    have S1 : s1.heap.SetOf (PySem.strKind prog w) S (fun y => (ws.take i).any (· == y)) (uniq (ws.take i)).length := by
      obtain ⟨o, es, ep, tb, ho, q⟩ := hS
      exact ⟨o, es, ep, tb, mv.heap S _ hSw ho, q⟩
    have few : (uniq (ws.take i)).length ≤ 4000 := Nat.le_trans (uniq_le _) (by rw [List.length_take]; omega)
    show wpAny _ A.in1 (holding [Value.str z t] (setAdd S (.str z t)) >>= _) _ _ s1
    refine wpAny_bind (wpAny_holding ?_)
    unfold setAdd
    refine wpAny_holding (wpAny_bind ((PySem.strKind prog w).pyHash (k := z) (strKind_is _ _ _ _) ?_))
    refine wpAny_setAddHashed_of (knd := PySem.strKind prog w) (s := { s1 with toks := s1.toks + 1 }) (strKind_is _ _ _ _) rfl S1 (by unfold scanBound; omega) fun h2 sb S2 => ?_
    have tk : ws.take (i + 1) = ws.take i ++ [z] := by rw [List.take_add_one, hz] <;> rfl
    have S3 : h2.SetOf (PySem.strKind prog w) S (fun y => (ws.take (i + 1)).any (· == y)) (uniq (ws.take (i + 1))).length := by
      rw [tk]
      refine SetOf_congr S2 (fun y => any_uniq _ _ _) ?_
      rw [uniq_snoc]
      have hany : (ws.take i).any (· == z) = decide (z ∈ uniq (ws.take i)) := by
        by_cases q : z ∈ ws.take i
        · rw [decide_eq_true ((mem_uniq _ _).mpr q)]
          exact List.any_eq_true.mpr ⟨z, q, by simp⟩
        · rw [decide_eq_false (fun y => q ((mem_uniq _ _).mp y))]
          refine List.any_eq_false.mpr fun y hy e => q ?_
          rw [← beq_iff_eq.mp e]
          exact hy
      rw [hany]
      by_cases q : z ∈ uniq (ws.take i)
      · rw [if_pos (decide_eq_true q), if_pos q]
      · rw [if_neg (by rw [decide_eq_false q]; exact Bool.false_ne_true), if_neg q, List.length_append] <;> rfl
    refine wpAny_pure ⟨plainId_quiet F.plain_set_update_loop _, ih (i + 1) _ (by omega) lt (W.frame _ s1 _ _ st1 (Nat.le_succ _) fun b hb o e => ?_) S3 fun s3 mv3 q3 => ?_⟩
    · rw [sb.2 b (fun q : b = S => hSf (by rw [← q]; exact hb))]
      exact e
    · refine hR s3 (Moved.trans W.gtrans ((mv.mono sub1).then_heap (Nat.le_succ _) fun b o hb e => ?_) mv3) q3
      rw [sb.2 b (fun q : b = S => hb (by rw [q]; exact List.mem_cons_self))]
      exact e
end
section
variable {prog : Program} {w : World} {A : Around} {E : Value → Shared → Prop} {s : Shared}
abbrev emptySet (ld : Bool) : Obj := { cls := .type "set", dict := none, data := .set #[] 0 (.fresh 0 0 ld) }
/-- set(t), t a tuple of texts -/
theorem callSetT {l : Addr} {its : Array Value} {ws : List Str} {Q : Value → Shared → Prop} (hh : A.handled = none) (hl : s.heap.IsTuple l its) (hi : StrsAre its.toList ws) (hn : ws.length ≤ 4000)
    (q : ∀ (h2 : Heap) (tk : Nat), h2.SetOf (PySem.strKind prog w) s.heap.objs.size (fun y => ws.any (· == y)) (uniq ws).length → (∀ b o, b < s.heap.objs.size → s.heap.get? b = some o → h2.get? b = some o) → Q (.ref s.heap.objs.size) { s with heap := h2, toks := tk }) :
    wpAny (model prog w) A (call (.type "set") [.ref l]) Q E s := by
  obtain ⟨c, tl, hmro⟩ := PySem.F.called_set.mro
  have g1 := PySem.F.called_set.made
  have g2 := PySem.F.called_set.sub
  have g3 := PySem.F.called_set.notType
  have g4 := PySem.F.called_set.canCreate
  have g5 := PySem.F.typeCall_set_1 (.ref l)
  have hsz : ws.length = its.size := by rw [← StrsAre.len_eq hi, Array.length_toList]
  refine wpAny_call (codeAny_of_tree ?_)
  show wpAny _ _ (callAny (.type "set") _) _ _ _
  refine wpAny_pure ⟨Code.quiet_builtin _ (by decide +kernel), codeAny_builtin PySem.F.entry_type_call ?_⟩
  rw [Around.under_plain (weight_type_call_type "set" [.ref l] []) rfl]
  repeat (any_goals (first | assumption | wp_step))
  refine codeAny_mono (code_set_new_1 (.ref l) (E := E) (Q₁ := fun ob s1 => ∃ ld : Bool, ob = .ref s.heap.objs.size ∧ s1 = { s with heap := s.heap.push (emptySet ld) }) fun ld => ⟨ld, rfl, rfl⟩) fun r s1 hr => ?_
  cases r with
  | error e => exact hr
  | ok fl =>
    cases fl with
    | ret ob =>
      obtain ⟨ld, rfl, rfl⟩ := hr
      have hS : (s.heap.push (emptySet ld)).get? s.heap.objs.size = some (emptySet ld) := Heap.get?_push_size _ rfl
      have hT : Shared.TypeIs { s with heap := s.heap.push (emptySet ld) } (.ref s.heap.objs.size) "set" := ⟨_, hS, rfl⟩
      have g6 := PySem.F.called_set.init.lookup
      have g7 := PySem.F.called_set.init.bind (.ref s.heap.objs.size)
      repeat (any_goals (first | assumption | wp_step))
      refine codeAny_mono (codeAny_call_builtin (R := wants (fun r s2 => r = .none ∧ ∃ h2 tk, s2 = { s with heap := h2, toks := tk } ∧ h2.SetOf (PySem.strKind prog w) s.heap.objs.size (fun y => ws.any (· == y)) (uniq ws).length ∧
          (∀ b o, b < s.heap.objs.size → s.heap.get? b = some o → h2.get? b = some o)) E) PySem.F.called_set.init.plain PySem.F.entry_set_init (check_set_init_1 hT ?_)) fun r2 s2 hr2 => ?_
      · obtain ⟨ol, hol, hcl, nl, hdl⟩ := hl
        obtain ⟨oc, od, odt, os⟩ := ol
        simp only at hcl hdl
        subst hcl
        subst hdl
        have hol2 : (s.heap.push (emptySet ld)).get? l = some { cls := .type "tuple", dict := od, data := .seq its nl, slots := os } := Heap.get?_push_of_some _ hol
        have g8 := PySem.F.sub_tuple_set
        have g9 := PySem.F.sub_tuple_frozenset
        have g10 : (Value.type "tuple" == Value.type "dict") = false := by decide
        have hl1 : (s.heap.push (emptySet ld)).IsTuple l its := ⟨_, hol2, rfl, nl, rfl⟩
        unfold Builtin.«set.__init__» noKeywords Builtin.Frozenset.updateFrom
        generalize ePI : pyIter = PI
        wp_walk
        subst ePI
        refine wpAny_pyIter_tuple hl1 (wpAny_bind (wpAny_runValue ?_))
        have lS : l < s.heap.objs.size := Heap.lt_size hol
        have hh3 : A.in1.in1.in1.handled = none := by simp [hh]
        have neI : l ≠ (s.heap.push (emptySet ld)).objs.size := by
          rw [Heap.size_push]
          exact Nat.ne_of_lt (Nat.lt_succ_of_lt lS)
        have hSf : s.heap.objs.size ∉ [(s.heap.push (emptySet ld)).objs.size, l] := by
          rw [Heap.size_push]
          simp only [List.mem_cons, List.mem_singleton, List.not_mem_nil, or_false, not_or]
          exact ⟨Nat.ne_of_lt (Nat.lt_succ_self _), Nat.ne_of_gt lS⟩
        have hval : ∀ (i : Nat) (v : Value), its[i]? = some v → ∃ t, v = .str (ws.getD i Str.empty) t := fun i v hv => SS.strs_at hi i v (by rw [Array.getElem?_toList]; exact hv)
        have tkall : ws.take its.size = ws := by rw [← hsz, List.take_length]
        refine loopU ((Walks.tuple hh3 _ l neI its).toS) s.heap.objs.size hSf ws hsz (by omega) hval (its.size - 0) 0 _ (by omega) (Nat.zero_le _) ⟨⟨_, Heap.get?_push_size _ rfl, rfl, rfl⟩, (hl1.push _)⟩ ?hS0 ?hR
        case hS0 =>
          have hget : ((s.heap.push (emptySet ld)).push { cls := .type "tuple_iterator", data := .fields #[.ref l, .int 0 0] }).get? s.heap.objs.size = some (emptySet ld) := Heap.get?_push_of_some _ hS
          exact SetOf_congr ((setObjOf_fresh (knd := PySem.strKind prog w) ld).setOf hget (by unfold scanBound; omega)) (fun _ => rfl) rfl
        case hR =>
          intro s3 mv S3
          rw [tkall] at S3
          obtain ⟨h3, gn, dr, tk, os3⟩ := s3
          have eg : gn = s.gens := mv.gens
          have ed : dr = s.drawn := mv.drawn
          have eo : os3 = s.os := mv.os
          subst eg
          subst ed
          subst eo
          show wpAny _ _ _ _ _ _
          refine wpAny_pure ?_
          show wpAny _ _ (ret Value.none) _ _ _
          refine wpAny_pure ⟨rfl, h3, tk, rfl, S3, fun b o hb e => ?_⟩
          have b1 : b ≠ s.heap.objs.size := Nat.ne_of_lt hb
          have b2 : b ≠ (s.heap.push (emptySet ld)).objs.size := by
            rw [Heap.size_push]
            exact Nat.ne_of_lt (Nat.lt_succ_of_lt hb)
          refine mv.heap b o ?_ (Heap.get?_push_of_some _ (Heap.get?_push_of_some _ e))
          simp only [List.mem_cons, List.mem_singleton, List.not_mem_nil, or_false, not_or]
          exact ⟨b1, b2⟩
      · cases r2 with
        | error e => exact hr2
        | ok fl2 =>
          cases fl2 with
          | ret r =>
            obtain ⟨rfl, h2, tk, rfl, S2, k2⟩ := hr2
            repeat (any_goals (first | assumption | wp_step))
            exact q _ _ S2 k2
          | _ => exact hr2.elim
    | _ => exact hr.elim
end
end PfS
namespace L2
open PySem PySem.Spec PyProof.Rows
/-- len(set(t)), t a tuple of texts -/
def tLenU (K : PySem.W.Frag) (ta : TE) : TE := fun σ H Q => ta σ H fun x H1 => ∃ l, ∃ ws : List Str, x = .ref l ∧ SqT K H1 l (ws.map V.str) ∧ ws.length ≤ 4000 ∧ Q (.int (PfS.uniq ws).length) H1
section
variable {X : Cx}
theorem pe_lenU {a : Expr} {ta : TE} {p p2 q pos : Pos} (hc : X.calm = true) (hg : Gl X "len") (hm : X.mg "len" = none) (hg2 : Gl X "set") (hm2 : X.mg "set" = none) (ha : PE X a ta)
    (na : starEach [a] X.env = (false, eval a X.env) :: starEach [] X.env := by rfl) : PE X (.Call (.Name "len" p) [.Call (.Name "set" p2) [a] [] q] [] pos) (tLenU X.K ta) := by
  refine ⟨fun pins s σ H Q I h => ?_⟩
  refine Call_ (ld_blt I hg hm boot_len (callWith_builtin1 (args_cons ?_ rfl) rfl rfl))
  refine Call_ (ld_blt I hg2 hm2 boot_set (callWith_type1 (args_cons (thn (ha.run pins s σ H _ I h) fun v s1 ⟨x, H1, I1, r1, q1⟩ => args_nil ?_) na) na rfl))
  obtain ⟨l, ws, rfl, hq, hn, q1⟩ := q1
  cases r1
  obtain ⟨its, r, pl, hz⟩ := I1.tuple hq
  refine PfS.callSetT (I1.ok.hd hc) pl (by simpa using strsAre_of r) (by omega) fun h2 tk S2 k2 => args_nil ?_
  have hle := PfS.uniq_le ws
  obtain ⟨o, es, ep, t, ho, hex, hd, _, _, _, hf, hcn⟩ := S2
  have I2 : Inv X pins σ H1 { s1 with heap := h2, toks := tk } := I1.kept fun b o e => k2 b o (Heap.lt_size e) e
  exact call_len_set ho hex hd hf (by rw [hcn] <;> omega) ⟨.int (PfS.uniq ws).length, H1, I2.tok _, ⟨_, by rw [hcn]⟩, q1⟩
end
/-! ### an object made within a try -/
section
variable {X : Cx} {CX : CXT} {k : Nat} {f C : Addr} {fd : FuncData} {ps : List Str} {sp : Sp} {E : St → XK} {x : Str} {p pos : Pos} {e : Expr} {es : List Expr} {t : TA}
def tMakeW (C : Addr) (sp : Sp) (E : St → XK) (t : TA) : TE := fun σ H Q => t σ H fun vs H1 => ∀ x dx, H1 x = none → H1 dx = none → dx ≠ x →
  sp (.ref x :: vs) (upd (upd H1 dx (.own x)) x (.ins C dx [])) (fun v H2 => v = .non ∧ Q (.ref x) H2) (E σ)
theorem pe_makeW (M : Mk X.K C f) (F : FnOk X.prog X.w X.K X.mg X.base CX k f fd ps sp) (hr : Room (k + 1) X.A) (hg : Gl X x) (hm : X.mg x = some (.ref C)) (hb : Binds X.K fd ps []) (hx : ∀ σ, PassesAt CX X σ (E σ))
    (ha : PA X (e :: es) t) (hdb : (x == ("__debug__" : Str)) = false := by decide) (he : starEach (e :: es) X.env = (false, eval e X.env) :: starEach es X.env := by rfl) (hpl : (backTo pos (starEach es X.env)).any (·.1) = false := by rfl) :
    PE X (.Call (.Name x p) (e :: es) [] pos) (tMakeW C sp E t) := by
  refine ⟨fun pins s σ H Q I h => ?_⟩
  refine wpAny_Call_Name_kw (ld_glob I hg hm ?_ hdb)
  refine PySem.W.callWith_K (h₀ := X.base) I.ok.mod.kin M.kp (thn (ha.run pos pins s σ H _ I h) fun us s1 ⟨vs, H1, I1, r, q⟩ => ⟨I1.kIn, ?_⟩) he hpl
  have hq := q (s1.heap.objs.size + 1) s1.heap.objs.size (I1.hok.fresh (Nat.le_succ _)) (I1.hok.fresh (Nat.le_refl _)) (Nat.ne_of_lt (Nat.lt_succ_self _))
  have I2 := Inv.made (C := C) I1
  have r2 : Vals (V.ref (s1.heap.objs.size + 1) :: vs) (Value.ref (s1.heap.objs.size + 1) :: us) := .cons rfl r
  have hl : (Value.ref (s1.heap.objs.size + 1) :: us).length = ps.length := by
    rw [← r2.length]
    exact F.len _ _ _ _ hq
  refine wpAny_call (make_map (f := f) I1.kIn M.makes M.init (beq_iff_eq.mp M.fn) (codeAny_mono (F.run _ X.stack _ _ ⟨Value.ref (s1.heap.objs.size + 1) :: us, []⟩ (Value.ref (s1.heap.objs.size + 1) :: us) _ _ (E σ) (hr.make C us [])
    (I2.env0.make C us []) (by
      have := hb _ (Value.ref (s1.heap.objs.size + 1) :: us) I2.kIn (by rw [List.append_nil]; exact hl)
      rw [List.append_nil] at this
      exact this) r2 hq) fun r s2 hq2 => ?_))
  cases r with
  | error er => exact hx σ pins _ _ er s2 I2 hq2
  | ok fl =>
    cases fl with
    | ret u =>
      obtain ⟨v, H3, I3, rv, ev, q3⟩ := I2.after hq2
      subst ev
      exact ⟨rv, ⟨V.ref (s1.heap.objs.size + 1), H3, I3, rfl, q3⟩⟩
    | next => exact False.elim hq2
    | brk => exact False.elim hq2
    | cont => exact False.elim hq2
end
end L2
set_option Elab.async false
set_option linter.all false
set_option maxRecDepth 100000
set_option maxHeartbeats 4000000
/-! enumerate(t), t a tuple -/
namespace PySem
open PySem.Spec PyProof.Rows
open AutoSeq1 (wpAny_loadPart')
set_option maxHeartbeats 1000000 in
theorem pf_meets_enumT (l : Addr) (its : Array Value) (n : Nat) (dc : Option Addr) (sl : Array (Option Value)) :
    Meets (Builtin.«enumerate.__new__» ⟨[.type "enumerate", .ref l], []⟩) (fun _ R s => s.heap.get? l = some { cls := .type "tuple", dict := dc, data := .seq its n, slots := sl } ∧
      R (.ok (.ret (.ref (s.heap.push { cls := .type "tuple_iterator", data := .fields #[.ref l, .int 0 0] }).objs.size)))
        { s with heap := (s.heap.push { cls := .type "tuple_iterator", data := .fields #[.ref l, .int 0 0] }).push { cls := .type "enumerate", data := .fields #[.none, .bool false, .ref s.heap.objs.size, rawInt 0, .none, .none] } }) :=
  .of_wp fun prog w A R s q => by
    obtain ⟨hp, g, d, tk, os⟩ := s
    obtain ⟨hl, q⟩ := q
    have hsub := sub_enumerate
    have hL : Heap.IsTuple (Shared.heap ⟨hp, g, d, tk, os⟩) l its := ⟨_, hl, rfl, n, rfl⟩
    wp_walk using wpAny_loadPart' hl
    refine wpAny_stack_any fun st => wpAny_pure ?_
    split
    · rename_i c _ _ _ _ _
      cases (c == Value.type "enumerate")
      · wp_walk using wpAny_loadPart' hl, wpAny_pyIter_tuple hL
        exact ⟨_, rfl, q⟩
      · wp_walk using wpAny_loadPart' hl, wpAny_pyIter_tuple hL
        exact ⟨_, rfl, q⟩
    · wp_walk using wpAny_loadPart' hl, wpAny_pyIter_tuple hL
      exact ⟨_, rfl, q⟩
section
variable {prog : Program} {w : World} {A : Around} {E : Value → Shared → Prop} {s : Shared}
theorem pf_call_enumT {l : Addr} {its : Array Value} {Q : Value → Shared → Prop} (hL : s.heap.IsTuple l its)
    (q : ∀ h2, IsEnum h2 (s.heap.objs.size + 1) s.heap.objs.size 0 .none → h2.IsTupleIter s.heap.objs.size l 0 → (∀ b o, s.heap.get? b = some o → h2.get? b = some o) → Q (.ref (s.heap.objs.size + 1)) { s with heap := h2 }) :
    wpAny (model prog w) A (call (.type "enumerate") [.ref l]) Q E s := by
  obtain ⟨⟨c, dc, dt, sl⟩, hl, hc, n, hd⟩ := hL
  have hc1 : c = .type "tuple" := hc
  have hd1 : dt = .seq its n := hd
  subst hc1
  subst hd1
  refine callType_new F.called_enumerate (by decide) (F.typeCall_enumerate_1 _) (F.newCall_enumerate_1 _) (fun ob => F.args_object_init_2 ob _) F.entry_enumerate_new (pf_meets_enumT l its n dc sl) ⟨hl, ?_⟩
  have hz : (s.heap.push { cls := .type "tuple_iterator", data := .fields #[.ref l, .int 0 0] }).objs.size = s.heap.objs.size + 1 := Heap.size_push ..
  show _ ∧ _
  rw [hz]
  have he : IsEnum ((s.heap.push { cls := .type "tuple_iterator", data := .fields #[.ref l, .int 0 0] }).push { cls := .type "enumerate", data := .fields #[.none, .bool false, .ref s.heap.objs.size, rawInt 0, .none, .none] }) (s.heap.objs.size + 1) s.heap.objs.size 0 .none := by
    have e := Heap.get?_push_size (s.heap.push { cls := .type "tuple_iterator", data := .fields #[.ref l, .int 0 0] }) (o := { cls := .type "enumerate", data := .fields #[.none, .bool false, .ref s.heap.objs.size, rawInt 0, .none, .none] }) rfl
    rw [hz] at e
    exact e
  exact ⟨⟨_, he, rfl⟩, q _ he ⟨_, Heap.get?_push_of_some _ (Heap.get?_push_size _ rfl), rfl, rfl⟩ fun b o x => Heap.get?_push_of_some _ (Heap.get?_push_of_some _ x)⟩
end
end PySem
namespace L2
open PySem PySem.Spec PyProof.Rows
/-- the tuple at a, each item in a new pair -/
def IteT (K : PySem.W.Frag) (a : Addr) : It :=
  ⟨fun i H => ∃ (xs : List V) (x : V), SqT K H a xs ∧ xs[i]? = some x, fun i H v H2 => ∃ T x, v = .ref T ∧ H T = none ∧ H2 = upd H T (.tup [.int (i : Nat), x]) ∧ ∀ xs, SqT K H a xs → xs[i]? = some x, fun i H => ∃ xs : List V, SqT K H a xs ∧ xs.length = i⟩
theorem turn_enumT {P : Program} {w : World} {K : PySem.W.Frag} {elts : List Expr} {kk : Nat} {tpos : Pos} (a e it : Addr) (hai : a ≠ it) :
    Turn P w K (.Tuple elts kk tpos) (IteT K a) [e, it] e (fun i h => (∃ old, IsEnum h e it ((i : Nat) : Int) old) ∧ h.IsTupleIter it a i ∧ e ≠ it ∧ e ≠ a) where
  mem := by simp
  obj := fun i h st b hb => by
    obtain ⟨⟨old, he⟩, ⟨o, ho, hc, hd⟩, _⟩ := st
    have eb : b = e ∨ b = it := by simpa using hb
    rcases eb with z | z
    · rw [z]; exact ⟨_, he, fun v q => nomatch q⟩
    · rw [z]; exact ⟨o, ho, fun v q => by rw [hd] at q; cases q⟩
  keep := fun i h h2 st k => let ⟨⟨old, he⟩, hi, hne⟩ := st; ⟨⟨old, k e (by simp) _ he⟩, hi.at fun o q => k it (by simp) o q, hne⟩
  item := by
    intro X hP hw hK hc i pins s σ H E I hf st hg
    subst hP hw hK
    obtain ⟨⟨old, he⟩, hit, hne, hea⟩ := st
    obtain ⟨xs, x, hq, hx⟩ := hg
    obtain ⟨its, rv, p, hz⟩ := I.tuple hq
    obtain ⟨u, hu, ru⟩ := rv.get hx
    have hel : e < s.heap.objs.size := Heap.lt_size he
    have hil : it < s.heap.objs.size := by
      obtain ⟨_, q, _⟩ := hit
      exact Heap.lt_size q
    have hh : X.A.in1.handled = none := by
      have := I.ok.hd hc
      simpa using this
    have hlt : i < its.toArray.size := by
      rw [List.size_toArray]
      exact (List.getElem?_eq_some_iff.mp hu).1
    refine wpAny_pyNext_enum_itemD (Draws.tuple hh it a hai its.toArray) he ⟨hit, p⟩ hlt hne (by simp [hne, hea]) fun y h2 tk hy ho hst hT hsz hk => ?_
    have hy2 : y = u := by
      have e1 : its[i]? = some y := by simpa using hy
      rw [hu] at e1
      exact (Option.some.inj e1).symm
    subst hy2
    refine ⟨_, rfl, wpAny_letOwnedTupleGo_enum (s := { s with heap := h2, toks := tk + 1 }) ho fun h3 he3 sb => ?_⟩
    have hT2 : h3.get? s.heap.objs.size = some { cls := .type "tuple", data := .seq #[.int i tk, y] } := (sb.2 _ (Nat.ne_of_gt hel)).trans hT
    have new : ObjOk X.prog X.w (upd H s.heap.objs.size (.tup [.int (i : Nat), x])) h3 s.heap.objs.size (.tup [.int (i : Nat), x]) :=
      ⟨by show 2 ≤ sizeLine; decide, [.int i tk, y], .cons ⟨_, rfl⟩ (.cons ru .nil), ⟨_, hT2, rfl, _, rfl⟩⟩
    have I1 : Inv X pins σ (upd H s.heap.objs.size (.tup [.int (i : Nat), x])) { s with heap := h3, toks := tk + 1 } :=
      I.turnedNew (ch := [e, it]) (fun b ob hb q => (sb.2 b (fun z => hb (by simp [z]))).trans (hk b ob (fun z => hb (by simp [z])) (fun z => hb (by simp [z])) q)) hf (Nat.le_refl _) new
    refine ⟨.ref s.heap.objs.size, _, I1, rfl, ⟨_, x, rfl, I.hok.fresh (Nat.le_refl _), rfl, fun ys hy => by rw [I.tuple_inj hy hq]; exact hx⟩, ⟨⟨y, ?_⟩, hst.1.at fun o q => (sb.2 it (Ne.symm hne)).trans q, hne, hea⟩, fun b hb => ?_⟩
    · have e1 : ((i + 1 : Nat) : Int) = (i : Int) + 1 := by omega
      rw [e1]
      exact he3
    · have hlb : b < s.heap.objs.size := by
        have eb : b = e ∨ b = it := by simpa using hb
        rcases eb with z | z
        · rw [z]; exact hel
        · rw [z]; exact hil
      rw [upd_ne (Nat.ne_of_lt hlb)]
      exact (hf b hb).1
  done := by
    intro X hP hw hK hc i pins s σ H E I hf st hg
    subst hP hw hK
    obtain ⟨⟨old, he⟩, hit, hne, hea⟩ := st
    obtain ⟨xs, hq, hx⟩ := hg
    obtain ⟨its, rv, p, hz⟩ := I.tuple hq
    obtain ⟨f0, f1, f2, f3, f4, f5⟩ := hf it (by simp)
    have hh : X.A.in1.handled = none := by
      have := I.ok.hd hc
      simpa using this
    have hl : i = its.toArray.size := by
      rw [List.size_toArray, ← rv.length]
      exact hx.symm
    refine wpAny_pyNext_enum_endD (Draws.tuple hh it a hai its.toArray) he ?_ fun h2 eb => ⟨rfl, I.turned (t' := s.toks) (fun b o hb q => eb b o hb q) f0 f1 f3 f4 f5⟩
    rw [← hl]
    exact ⟨hit, p⟩
  self := fun A i s Q E st q => let ⟨⟨_, he⟩, _⟩ := st; wpAny_pyIter_enum he q
def iEnumT (K : PySem.W.Frag) (ta : TA) : TI := fun σ H R => ta σ H fun vs H1 => ∃ a xs, vs = [.ref a] ∧ SqT K H1 a xs ∧ R (IteT K a) H1
theorem pi_enumT {X : Cx} {e : Expr} {ta : TA} {p pos tpos : Pos} {elts : List Expr} {kk : Nat} (hg : Gl X "enumerate") (hm : X.mg "enumerate" = none) (ha : PA X [e] ta) (hs : starEach [e] X.env = [(false, eval e X.env)] := by rfl) :
    PI X (.Tuple elts kk tpos) (.Call (.Name "enumerate" p) [e] [] pos) (iEnumT X.K ta) := by
  refine ⟨fun pins s σ H R I h => ?_⟩
  refine Call_ (ld_blt I hg hm boot_enumerate (callWith_type1 (thn (ha.run pos pins s σ H _ I h) fun us s1 ⟨vs, H1, I1, r1, q1⟩ => ?_) hs rfl))
  obtain ⟨a, xs, ex, hq, q⟩ := q1
  subst ex
  cases r1 with
  | cons r rr =>
    cases rr
    cases r
    obtain ⟨its, rv, p', hz⟩ := I1.tuple hq
    have hal : a < s1.heap.objs.size := by
      obtain ⟨o, ho, _⟩ := p'
      exact Heap.lt_size ho
    refine pf_call_enumT p' fun h2 he hit hk => wpAny_pyIter_enum he ?_
    have I2 : Inv X pins σ H1 { s1 with heap := h2 } := I1.kept (t' := s1.toks) hk
    refine ⟨s1.heap.objs.size + 1, [s1.heap.objs.size + 1, s1.heap.objs.size], _, _, H1, rfl, I2, turn_enumT a (s1.heap.objs.size + 1) s1.heap.objs.size (Nat.ne_of_lt hal), ⟨⟨.none, he⟩, hit, Nat.succ_ne_self _, Nat.ne_of_gt (Nat.lt_succ_of_lt hal)⟩, fun b hb => ?_, q⟩
    have eb : b = s1.heap.objs.size + 1 ∨ b = s1.heap.objs.size := by simpa using hb
    have hle : s1.heap.objs.size ≤ b := by
      rcases eb with z | z
      · rw [z]; exact Nat.le_add_right _ _
      · rw [z]; exact Nat.le_refl _
    exact I1.fpOk hle (I1.hok.fresh hle)
theorem walk_enumT {K : PySem.W.Frag} {a : Addr} {xs : List V} : Walk (IteT K a) xs.length (fun H => SqT K H a xs) (YPair (fun i => some (.int (i : Nat))) (fun i => xs[i]?)) := by
  refine ⟨fun i H hi hq => ⟨xs, _, hq, List.getElem?_eq_getElem hi⟩, fun H hq => ⟨xs, hq, rfl⟩, fun i H v H2 hi hq y => ?_⟩
  obtain ⟨T, x, ev, hT, e2, hx⟩ := y
  exact ⟨T, _, x, ev, hT, e2, rfl, hx xs hq⟩
end L2
set_option Elab.async false
set_option linter.all false
set_option maxRecDepth 100000
set_option maxHeartbeats 4000000
/-! == and != by an own __eq__ -/
namespace L2
open PySem PySem.Spec PyProof.Rows
section
variable {X : Cx} {CX : CXT} {n : Nat} {C f : Addr} {fd : FuncData} {ps : List Str} {sp : Sp} {E : XK}
/-- what an own __eq__ answers, two objects of its class -/
def rEqO (C : Addr) (sp : Sp) (E : XK) (g : Bool → Bool) : R2 := fun x y H Q => ∃ a b dx dy fs gs, x = .ref a ∧ y = .ref b ∧ H a = some (.ins C dx fs) ∧ H b = some (.ins C dy gs) ∧ sp [.ref a, .ref b] H (fun v H' => ∃ r, v = .bl r ∧ Q (.bl (g r)) H') E
theorem run_eqO {A : Around} {pins : List (Addr × Obj)} {σ : St} {H : Hp} {s : Shared} {a : Addr} {u : Value} {y : V} {R : Bool → Hp → Prop} {E2 : Value → Shared → Prop} (F : FnOk X.prog X.w X.K X.mg X.base CX n f fd ps sp) (hb : Binds X.K fd ps []) (hr : Room n A) (hfr : A.frames = X.A.frames)
    (hx : ∀ (e : Value) (s' : Shared), CX X.stack H s E e s' → E2 e s') (I : Inv X pins σ H s) (ry : RelV y u) (h : sp [.ref a, y] H (fun v H' => ∃ r, v = .bl r ∧ R r H') E) :
    wpAny (model X.prog X.w) A (call (.ref f) [.ref a, u]) (fun v s' => ∃ r H', v = .bool r ∧ Inv X pins σ H' s' ∧ R r H') E2 s := by
  have e0 : Env0 X.prog X.w X.K X.mg X.base A X.stack s H := by
    have e := I.env0
    exact ⟨by rw [hfr]; exact e.frames, e.mod, e.bs, e.bsz, e.funs, e.frf, e.hok, e.bare⟩
  have hl := F.len _ _ _ _ h
  have r2 : Vals [V.ref a, y] [Value.ref a, u] := .cons rfl (.cons ry .nil)
  refine wpAny_call (codeAny_mono (F.run A X.stack s H ⟨[.ref a, u], []⟩ [.ref a, u] [.ref a, y] _ E hr e0 (by
    have := hb s [.ref a, u] I.kIn (by simpa using hl)
    simpa using this) r2 h) fun r s' hq => ?_)
  cases r with
  | error e => exact hx e s' hq
  | ok fl =>
    cases fl with
    | ret w =>
      obtain ⟨z, H', I', rz, r, ez, q⟩ := I.after hq
      subst ez
      cases rz
      exact ⟨r, H', rfl, I', q⟩
    | next => exact False.elim hq
    | brk => exact False.elim hq
    | cont => exact False.elim hq
theorem op_eqO (F : FnOk X.prog X.w X.K X.mg X.base CX n f fd ps sp) (hs : PySem.W.findIn X.K (.ref C) "__eq__" = some (some (.ref f))) (hf : PySem.W.isFn X.K (.ref f) = true) (hb : Binds X.K fd ps []) (hx : Passes CX X E) (hr : Room n X.A) : OpR X (compareOp .Eq) (rEqO C sp E id) := by
  intro pins s σ H x y v u Q I rx ry h
  obtain ⟨a, b, dx, dy, fs, gs, rfl, rfl, ha, hb', q⟩ := h
  cases rx
  cases ry
  show wpAny (model X.prog X.w) X.A (richCompare .Eq (.ref a) (.ref b)) (EP X pins σ Q) X.xe s
  obtain ⟨mA, J, _⟩ := ins_get I.hok ha
  obtain ⟨mB, J', _⟩ := ins_get I.hok hb'
  obtain ⟨od, J, _⟩ := J.look
  obtain ⟨od', J', _⟩ := J'.look
  obtain ⟨m, hF⟩ := I.fr
  refine PySem.W.cmp_K (op := .Eq) (tb := .ref C) hr.units0 hF I.ok.mod.kin J J'.type (by simp [PySem.W.notFirst]) hs hf ?_
  refine wpAny_mono (run_eqO (A := X.A) (y := .ref b) F hb hr rfl (fun e s' c => hx pins σ H s e s' I c) I rfl q) (fun w s' z => ?_) fun _ _ e => e
  obtain ⟨r, H', rfl, I', q'⟩ := z
  exact ⟨.bl r, H', I', rfl, q'⟩
end
section
open PySem.W
variable {prog : Program} {w : World} {A : Around} {E : Value → Shared → Prop} {s : Shared} {K : Frag} {x C L f : Addr} {h₀ : Heap} {m : Str → Option Value} {ox : Obj} {od : Option Obj} {b : Value}
theorem neBound {args : List Value} {Q : Option Value → Shared → Prop} {M : Model} (X : K.In s.heap) (I : InstAt s.heap x ox C od) (hs : findIn K (.ref C) "__ne__" = some (some (.builtin "object.__ne__")))
    (h : wpAny M A (call (.builtin "object.__ne__") (.ref x :: args)) (fun v => Q (some v)) E s) : wpAny M A (callSpecialIfBound? (.ref x) "__ne__" args) Q E s := by
  simp only [callSpecialIfBound?, bindSpecialIfBound?]
  refine wpAny_holding (wpAny_bind (wpAny_bind (wpAny_bind (I.type.here ((looks_findIn X hs).here ?_)))))
  simp only [F.cmp_object.ne.bind]
  refine wpAny_bind (wpAny_askSetting (wpAny_ite ?_))
  have fin : wpAny M A (call (.builtin "object.__ne__") ([.ref x] ++ args) >>= fun v => pure (some v)) Q E s := wpAny_bind (wpAny_mono h (fun v s' h' => wpAny_pure h') fun _ _ h' => h')
  split
  · exact wpAny_bind (wpAny_pure (wpAny_pure fin))
  · exact wpAny_tryCatch (wpAny_bind (wpAny_pure (wpAny_pure fin)))
theorem checkNe {Q : Unit → Shared → Prop} {M : Model} (X : K.In s.heap) (I : InstAt s.heap x ox C od) (hsub : subIn K (.ref C) (.type "object") = some true) (hq : Q () s) :
    wpAny M A (checkBuiltinCall "object.__ne__" ⟨[.ref x, b], []⟩) Q E s := by
  simp only [checkBuiltinCall, F.cmpKind_ne, F.cmpSplit_ne]
  refine wpAny_bind ?_
  · unfold isInstance
    refine wpAny_bind (I.type.here ((looks_subIn X hsub).here ?_))
    have ha := F.cmpArgs_ne (.ref x) b
    cases hsig : Manifest.signature? "object.__ne__" with
    | none => exact wpAny_pure hq
    | some sig =>
      simp only [argsOk, hsig] at ha
      have h2 : Bind.checkArgs "object.__ne__" sig ⟨[.ref x, b], []⟩ = pure () := ha
      show wpAny M A (Bind.checkArgs "object.__ne__" sig ⟨[.ref x, b], []⟩) Q E _
      rw [h2]; exact wpAny_pure hq
theorem ne_K {Q : Value → Shared → Prop} (hu : A.units + 1 < cLine) (F0 : Fr h₀ L s.heap m) (X₀ : K.In h₀) (I : InstAt s.heap x ox C od) (hb : Looks (model prog w) s.heap (typeOf b) (.ref C))
    (hs : findIn K (.ref C) "__ne__" = some (some (.builtin "object.__ne__"))) (hsub : subIn K (.ref C) (.type "object") = some true) (he : findIn K (.ref C) "__eq__" = some (some (.ref f))) (hf : isFn K (.ref f) = true)
    (h : wpAny (model prog w) A.in1 (call (.ref f) [.ref x, b]) (fun v s' => ∃ r, v = .bool r ∧ Q (.bool (!r)) s') E s) : wpAny (model prog w) A (richCompare .NotEq (.ref x) b) Q E s := by
  have X := X₀.keeps F0.keep
  have one : wpAny (model prog w) A (tryCompare (.ref x) "__ne__" b) (fun r s' => ∃ v, r = some v ∧ Q v s') E s := by
    unfold tryCompare
    refine wpAny_bind (neBound X I hs (wpAny_call (codeAny_call_builtin F.cmp_object.ne.plain F.cmpEntry_ne (checkNe X I hsub ?_))))
    unfold Builtin.«object.__ne__»
    repeat (first
      | with_reducible refine wpAny_cRoomFor (A := A.in1) hu ?_
      | (refine wpAny_bind (m := callSpecialIfBound? (.ref x) (Str.ofString "__eq__") [b])
          (ifBound_K X I he hf (wpAny_mono h (fun r s' hr => by
            obtain ⟨r, rfl, hq⟩ := hr
            repeat (first | exact wpAny_pure ⟨_, rfl, hq⟩ | exact wpAny_pure (wpAny_pure ⟨_, rfl, hq⟩) | (refine wpAny_bind (m := truthy (.bool _)) (wpAny_truthy_bool ?_)) | wp_step)) fun _ _ e => e)))
      | wp_step)
  unfold richCompare
  simp only [oneThing_ref]
  refine wpAny_holding (wpAny_bind (wpAny_cRoomFor (Nat.lt_of_succ_lt hu) ?_))
  refine wpAny_bind (I.type.here (wpAny_bind (hb.here ?_)))
  rw [cmpInfo_NotEq]
  dsimp only
  rw [show (Value.ref C != Value.ref C) = false from by simp]
  simp only [Bool.false_eq_true, if_false]
  refine wpAny_bind (wpAny_pure ?_)
  simp only [Bool.false_eq_true, if_false]
  refine wpAny_bind (wpAny_mono one (fun r s' z => ?_) fun _ _ e => e)
  obtain ⟨v, rfl, hq⟩ := z
  exact wpAny_pure hq
end
section
variable {X : Cx} {CX : CXT} {n : Nat} {C f : Addr} {fd : FuncData} {ps : List Str} {sp : Sp} {E : XK}
theorem op_neO (F : FnOk X.prog X.w X.K X.mg X.base CX n f fd ps sp) (hs : PySem.W.findIn X.K (.ref C) "__eq__" = some (some (.ref f))) (hf : PySem.W.isFn X.K (.ref f) = true)
    (hn : PySem.W.findIn X.K (.ref C) "__ne__" = some (some (.builtin "object.__ne__"))) (hsub : PySem.W.subIn X.K (.ref C) (.type "object") = some true)
    (hb : Binds X.K fd ps []) (hx : Passes CX X E) (hr : Room (n + 1) X.A) : OpR X (compareOp .NotEq) (rEqO C sp E not) := by
  intro pins s σ H x y v u Q I rx ry h
  obtain ⟨a, b, dx, dy, fs, gs, rfl, rfl, ha, hb', q⟩ := h
  cases rx
  cases ry
  show wpAny (model X.prog X.w) X.A (richCompare .NotEq (.ref a) (.ref b)) (EP X pins σ Q) X.xe s
  obtain ⟨mA, J, _⟩ := ins_get I.hok ha
  obtain ⟨mB, J', _⟩ := ins_get I.hok hb'
  obtain ⟨od, J, _⟩ := J.look
  obtain ⟨od', J', _⟩ := J'.look
  obtain ⟨m, hF⟩ := I.fr
  refine ne_K (by have := hr.un; omega) hF I.ok.mod.kin J J'.type hn hsub hs hf ?_
  refine wpAny_mono (run_eqO (A := X.A.in1) (y := .ref b) F hb hr.in1 rfl (fun e s' c => hx pins σ H s e s' I c) I rfl q) (fun w s' z => ?_) fun _ _ e => e
  obtain ⟨r, H', rfl, I', q'⟩ := z
  exact ⟨r, rfl, .bl (!r), H', I', rfl, q'⟩
end
theorem decI_str (a : Str) (t : Tok) (x C dx : Addr) : Meets (Builtin.«str.__eq__» ⟨[.str a t, .ref x], []⟩) (fun _ R s => s.heap.get? x = some { cls := .ref C, dict := some dx, data := .plain, slots := #[] } ∧ R (.ok (.ret .notImplemented)) s) :=
  .of_wp fun prog w A R s h => by obtain ⟨hp, g, d, tk, os⟩ := s; obtain ⟨hl, h⟩ := h; wp_walk using wpAny_loadPart' hl; exact ⟨_, rfl, h⟩
theorem decI_int (a : Int) (t : Tok) (x C dx : Addr) : Meets (Builtin.«int.__eq__» ⟨[.int a t, .ref x], []⟩) (fun _ R s => s.heap.get? x = some { cls := .ref C, dict := some dx, data := .plain, slots := #[] } ∧ R (.ok (.ret .notImplemented)) s) :=
  .of_wp fun prog w A R s h => by obtain ⟨hp, g, d, tk, os⟩ := s; obtain ⟨hl, h⟩ := h; wp_walk using wpAny_loadPart' hl; exact ⟨_, rfl, h⟩
section
open PySem.W
variable {prog : Program} {w : World} {A : Around} {E : Value → Shared → Prop} {s : Shared} {K : Frag} {x C f : Addr} {ox : Obj} {od : Option Obj} {u : Value} {T : String}
theorem decI_list {dd : Option Addr} {sl : Array (Option Value)} {items : Array Value} {n : Nat} {l : Addr} {Q : Fin → Shared → Prop} {M : Model} (X : K.In s.heap) (I : InstAt s.heap x ox C od) (hm : subIn K (.ref C) (.type "list") = some false) (hq : Q (.done (.ret .notImplemented)) s) :
    wpAny M A (Builtin.«list.__eq__» ⟨[.ref l, .ref x], []⟩) Q E s := by
  unfold Builtin.«list.__eq__»
  repeat (first | (refine wpAny_bind (m := isInstance (.ref x) (.type "list")) ?_; unfold isInstance; refine wpAny_bind (I.type.here ((looks_subIn X hm).here ?_))) | wp_step)
  all_goals exact hq
theorem rc_own {Q : Value → Shared → Prop} (hu : A.units < cLine) (X : K.In s.heap) (I : InstAt s.heap x ox C od) (ht : Looks (model prog w) s.heap (typeOf u) (.type T)) (hm : subIn K (.ref C) (.type T) = some false)
    (dec : wpAny (model prog w) A (tryCompare u "__eq__" (.ref x)) (fun r s' => r = none ∧ s' = s) E s) (hs : findIn K (.ref C) "__eq__" = some (some (.ref f))) (hf : isFn K (.ref f) = true)
    (ho : oneThing? .Eq u (.ref x) = none) (h : wpAny (model prog w) A (call (.ref f) [.ref x, u]) (PySem.W.CmpBack Q) E s) : wpAny (model prog w) A (richCompare .Eq u (.ref x)) Q E s := by
  have one : wpAny (model prog w) A (tryCompare (.ref x) "__eq__" u) (fun r s' => ∃ v, r = some v ∧ Q v s') E s := by
    unfold tryCompare
    refine wpAny_bind (ifBound_K X I hs hf (wpAny_mono h (fun v s' hv => ?_) fun _ _ e => e))
    cases v <;> first | exact hv.elim | exact wpAny_pure ⟨_, rfl, hv⟩
  simp only [richCompare, cmpInfo_Eq, ho]
  refine wpAny_holding (wpAny_bind (wpAny_cRoomFor hu ?_))
  refine wpAny_bind (ht.here (wpAny_bind (I.type.here ?_)))
  split
  · refine wpAny_bind ((looks_subIn X hm).here ?_)
    simp only [Bool.false_eq_true, if_false, Bool.not_false, if_true]
    refine wpAny_bind (m := tryCompare u _ (.ref x)) (wpAny_mono dec (fun r s1 z => ?_) fun _ _ e => e)
    obtain ⟨rfl, rfl⟩ := z
    refine wpAny_bind (m := tryCompare (.ref x) _ u) (wpAny_mono one (fun r s2 z => ?_) fun _ _ e => e)
    obtain ⟨v, rfl, hq⟩ := z
    exact wpAny_pure hq
  · rename_i q
    exact absurd (by simp) q
end
section
open PySem.MeetsSeq PySem.AutoSeq1
variable {prog : Program} {w : World} {A : Around} {E : Value → Shared → Prop} {R : Result → Shared → Prop}
/-- at each turn the list is read anew, the item unlike x -/
def InI (prog : Program) (w : World) (A : Around) (E : Value → Shared → Prop) (l : Addr) (x : Value) (N : Nat) (I : Shared → Prop) : Prop :=
  ∀ s, I s → ∃ (items : Array Value) (n : Nat) (sl : Array (Option Value)), s.heap.get? l = some { cls := .type "list", dict := none, data := .seq items n, slots := sl } ∧ items.size = N ∧
    ∀ (i : Nat) (h1 : i < items.size), wpAny (model prog w) A.in1 (eqBool items[i] x) (fun r s' => r = false ∧ I s') E s
theorem in_loopG (l : Addr) (x : Value) (N : Nat) (I : Shared → Prop) (hl : InI prog w A (fun e s' => R (.error e) s') l x N I)
    (fin : ∀ s, I s → R (.ok (.ret (.bool false))) s) (k : Nat) :
    ∀ i : Nat, N - i = k → i ≤ N → ∀ s, I s →
      wpAny (model prog w) A.in1 (Builtin.«list.__contains__.loop» ⟨[.ref l, x, rawInt i], []⟩) (GQ.FinOf prog w A R) (fun e s' => R (.error e) s') s := by
  induction k with
  | zero =>
    intro i hk hi s h
    obtain ⟨items, n, sl, hl1, hs1, _⟩ := hl _ h
    have hR := fin s h
    obtain ⟨hp, g, d, tk, os⟩ := s
    wp_walk using wpAny_loadPart' hl1
    have hi1 : items[((i : Nat) : Int).toNat]? = none := by simp; omega
    rw [hi1]
    wp_walk
    exact hR
  | succ k ih =>
    intro i hk hi s h
    obtain ⟨items, n, sl, hl1, hs1, turn⟩ := hl _ h
    have hlt : i < items.size := by omega
    have ht := turn i hlt
    obtain ⟨hp, g, d, tk, os⟩ := s
    wp_walk using wpAny_loadPart' hl1
    have hi1 : items[((i : Nat) : Int).toNat]? = some items[i] := by simp [hlt]
    have hc : ((i : Int) + 1) = ((i + 1 : Nat) : Int) := by omega
    rw [hi1]
    refine wpAny_bind (wpAny_mono ht (fun r s2 h2 => ?_) fun _ _ x => x)
    obtain ⟨hr, h2⟩ := h2
    subst hr
    have hrec := ih (i + 1) (by omega) (by omega) s2 h2
    obtain ⟨hp2, g2, d2, tk2, os2⟩ := s2
    wp_walk
    rw [hc]
    exact ⟨plainId_quiet plain_contains_loop _, codeAny_builtin entry_contains_loop (by
      rw [Around.under_plainId plain_contains_loop _]
      exact hrec)⟩
theorem in_listG (l : Addr) (x : Value) (N : Nat) (I : Shared → Prop) (hl : InI prog w A (fun e s' => R (.error e) s') l x N I)
    (fin : ∀ s, I s → R (.ok (.ret (.bool false))) s) {s : Shared} (h : I s) :
    wpAny (model prog w) A.in1 (Builtin.«list.__contains__» ⟨[.ref l, x], []⟩) (GQ.FinOf prog w A R) (fun e s' => R (.error e) s') s := by
  have hrec := in_loopG (A := A) (R := R) l x N I hl fin _ 0 rfl (Nat.zero_le _) s h
  obtain ⟨hp, g, d, tk, os⟩ := s
  wp_walk
  exact ⟨plainId_quiet plain_contains_loop _, codeAny_builtin entry_contains_loop (by
    rw [Around.under_plainId plain_contains_loop _]
    exact hrec)⟩
end
section
variable {X : Cx} {CX : CXT} {n : Nat} {C f : Addr} {fd : FuncData} {ps : List Str} {sp : Sp} {E : XK}
/-- a text, a number, None or a list -/
def Odd (K : PySem.W.Frag) (H : Hp) : V → Prop
  | .str _ => True
  | .int _ => True
  | .non => True
  | .ref p => ∃ xs, H p = some (.lst xs)
  | _ => False
theorem eqB {A : Around} {s : Shared} {prog : Program} {w : World} {E2 : Value → Shared → Prop} {a : Addr} {u : Value} {Q : Bool → Shared → Prop} (hne : (u == .ref a) = false) (hnf : ∀ b t, u ≠ .float b t) (h : wpAny (model prog w) A (richCompare .Eq u (.ref a)) (fun v s' => ∃ r, v = .bool r ∧ Q r s') E2 s) : wpAny (model prog w) A (eqBool u (.ref a)) Q E2 s := by
  unfold eqBool
  refine wpAny_holding ?_
  refine wpAny_ite_split (fun hab => by rw [hne] at hab; cases hab) (fun _ => ?_)
  have fin : wpAny (model prog w) A (do let r ← richCompare .Eq u (.ref a); truthOfDropped r) Q E2 s := by
    refine wpAny_bind (wpAny_mono h (fun v s' hv => ?_) fun _ _ x => x)
    obtain ⟨r, rfl, q⟩ := hv
    exact wpAny_truthy_bool q
  cases u <;> first | exact fin | exact absurd rfl (hnf _ _)
theorem eq_odd {A : Around} {pins : List (Addr × Obj)} {σ : St} {H : Hp} {s : Shared} {a dx : Addr} {fs : List (Str × V)} {z : V} {u : Value} (G : FnOk X.prog X.w X.K X.mg X.base CX n f fd ps sp) (hs : PySem.W.findIn X.K (.ref C) "__eq__" = some (some (.ref f))) (hf : PySem.W.isFn X.K (.ref f) = true)
    (m1 : PySem.W.subIn X.K (.ref C) (.type "str") = some false) (m2 : PySem.W.subIn X.K (.ref C) (.type "int") = some false) (m3 : PySem.W.subIn X.K (.ref C) (.type "NoneType") = some false) (m4 : PySem.W.subIn X.K (.ref C) (.type "list") = some false)
    (hb : Binds X.K fd ps []) (hx : Passes CX X E) (hr : Room n A) (hfr : A.frames = X.A.frames) (I : Inv X pins σ H s) (rz : RelV z u) (ha : H a = some (.ins C dx fs)) (o : Odd X.K H z) (q : sp [.ref a, z] H (fun v H' => ∃ r, v = .bl r ∧ r = false ∧ H' = H) E) :
    wpAny (model X.prog X.w) A (eqBool u (.ref a)) (fun r s' => r = false ∧ Inv X pins σ H s') X.xe s := by
  obtain ⟨mA, J0, _⟩ := ins_get I.hok ha
  obtain ⟨od, J, _⟩ := J0.look
  have last : ∀ u, RelV z u → wpAny (model X.prog X.w) A (call (.ref f) [.ref a, u]) (PySem.W.CmpBack fun v s' => ∃ r, v = .bool r ∧ r = false ∧ Inv X pins σ H s') X.xe s := fun u ru => by
    refine wpAny_mono (run_eqO (A := A) (y := z) G hb hr hfr (fun e s' c => hx pins σ H s e s' I c) I ru q) (fun w s' t => ?_) fun _ _ e => e
    obtain ⟨r, H', rfl, I', rfl, rfl⟩ := t
    exact ⟨false, rfl, rfl, I'⟩
  cases z with
  | str k =>
    obtain ⟨t, rfl⟩ := id rz
    refine eqB rfl nofun (rc_own (T := "str") hr.units0 I.kIn J (fun A' Q' E' s' k' h' => wpAny_pure h') m1 ?_ hs hf rfl (last _ rz))
    exact wpAny_tryCompare_declines (show s.TypeIs (.str k t) "str" from rfl) F.slot_str_eq (call_meets F.slot_str_eq rfl F.entry_str_eq (F.args_str_eq_2 _ _) (decI_str k t a C dx) ⟨J0.obj, rfl, rfl, rfl⟩)
  | int k =>
    obtain ⟨t, rfl⟩ := id rz
    refine eqB rfl nofun (rc_own (T := "int") hr.units0 I.kIn J (fun A' Q' E' s' k' h' => wpAny_pure h') m2 ?_ hs hf rfl (last _ rz))
    exact wpAny_tryCompare_declines (show s.TypeIs (.int k t) "int" from rfl) F.slot_int_eq (call_meets F.slot_int_eq rfl F.entry_int_eq (F.args_int_eq_2 _ _) (decI_int k t a C dx) ⟨J0.obj, rfl, rfl, rfl⟩)
  | non =>
    obtain rfl : u = .none := id rz
    refine eqB rfl nofun (rc_own (T := "NoneType") hr.units0 I.kIn J (fun A' Q' E' s' k' h' => wpAny_pure h') m3 ?_ hs hf rfl (last _ rz))
    exact wpAny_tryCompare_declines (show s.TypeIs .none "NoneType" from rfl) F.slot_NoneType_eq_refl (call_gives F.slot_NoneType_eq_refl rfl F.entry_NoneType_eq (F.args_NoneType_eq_2 _ _) (PySem.SeqAt.NoneType___eq___none_ref_0 a) ⟨rfl, rfl, rfl⟩)
  | ref p =>
    obtain rfl : u = .ref p := id rz
    obtain ⟨xs, hp⟩ := o
    have ne : p ≠ a := fun e => by rw [e, ha] at hp; cases hp
    obtain ⟨its, rv, hl, _⟩ := I.list (.inl (.inl hp))
    obtain ⟨ol, ho, hc, _⟩ := hl.isList
    have hT : s.TypeIs (.ref p) "list" := ⟨ol, ho, hc⟩
    refine eqB (by simp [ne]) nofun (rc_own (T := "list") hr.units0 I.kIn J (fun A' Q' E' s' k' h' => wpAny_typeOf (show s'.TypeIs (.ref p) "list" from ⟨ol, k' _ _ ho, hc⟩) h') m4 ?_ hs hf rfl (last _ rz))
    refine wpAny_tryCompare_declines hT F.slot_list_eq (GQ.call_here F.slot_list_eq hT F.entry_list_eq (F.args_list_eq_2 _ _) (decI_list (items := #[]) (n := 0) (dd := none) (sl := #[]) I.kIn J m4 ?_))
    exact ⟨rfl, rfl, rfl⟩
  | _ => exact o.elim
/-- an object with an own __eq__ among odd things: not there -/
def rInO (K : PySem.W.Frag) (C : Addr) (sp : Sp) (E : XK) : R2 := fun x y H Q => ∃ a dx fs p xs, x = .ref a ∧ y = .ref p ∧ H a = some (.ins C dx fs) ∧ H p = some (.lst xs) ∧
  (∀ z ∈ xs, Odd K H z ∧ sp [.ref a, z] H (fun v H' => ∃ r, v = .bl r ∧ r = false ∧ H' = H) E) ∧ Q (.bl false) H
theorem op_inO (G : FnOk X.prog X.w X.K X.mg X.base CX n f fd ps sp) (hs : PySem.W.findIn X.K (.ref C) "__eq__" = some (some (.ref f))) (hf : PySem.W.isFn X.K (.ref f) = true)
    (m1 : PySem.W.subIn X.K (.ref C) (.type "str") = some false) (m2 : PySem.W.subIn X.K (.ref C) (.type "int") = some false) (m3 : PySem.W.subIn X.K (.ref C) (.type "NoneType") = some false) (m4 : PySem.W.subIn X.K (.ref C) (.type "list") = some false)
    (hb : Binds X.K fd ps []) (hx : Passes CX X E) (hr : Room (n + 1) X.A) : OpR X (compareOp .In) (rInO X.K C sp E) := by
  intro pins s σ H x y v u Q I rx ry h
  obtain ⟨a, dx, fs, p, xs, rfl, rfl, ha, hp, ht, q⟩ := h
  cases rx
  cases ry
  have hl : InI X.prog X.w X.A X.xe p (.ref a) xs.length (fun s' => Inv X pins σ H s') := fun s' I' => by
    obtain ⟨its, rv, hl, _⟩ := I'.list (.inl (.inl hp))
    obtain ⟨⟨c0, d0, da0, sl0⟩, n0, hl, e1, e2, e3⟩ := hl
    simp only at e1 e2 e3
    subst e1 e2 e3
    refine ⟨its.toArray, n0, sl0, ?_, by simp [rv.length], fun i h1 => ?_⟩
    · exact hl
    · have k1 : i < xs.length := by rw [rv.length]; simpa using h1
      have g1 : its[i]? = some its.toArray[i] := by
        have h1' : i < its.length := by simpa using h1
        rw [List.getElem?_eq_getElem h1'] <;> simp
      obtain ⟨u, hu, ru⟩ := rv.get (List.getElem?_eq_getElem k1)
      rw [g1] at hu
      rw [Option.some.inj hu]
      obtain ⟨o, e⟩ := ht _ (List.getElem_mem k1)
      exact eq_odd G hs hf m1 m2 m3 m4 hb hx hr.in1 rfl I' ru ha o e
  obtain ⟨items, n0, sl0, hl0, _, _⟩ := hl s I
  have hT : s.TypeIs (.ref p) "list" := ⟨_, hl0, rfl⟩
  show wpAny (model X.prog X.w) X.A (compareOp .In (.ref a) (.ref p)) _ _ _
  unfold compareOp
  refine wpAny_bind (wpAny_contains_slot hT F.slot_list_contains (GQ.call_here F.slot_list_contains hT F.entry_list_contains (F.args_list_contains_2 _ _) (in_listG (R := wants (fun r s' => wpAny (model X.prog X.w) X.A (truthy r) _ X.xe s') X.xe) p (.ref a) xs.length _ hl (fun s' I' => ?_) I)))
  exact wpAny_truthy_bool (wpAny_pure ⟨.bl false, H, I', rfl, q⟩)
end
/-- int(truth) -/
def rIntB : List V → Hp → VK → Prop := fun xs H Q => ∃ b : Bool, xs = [.bl b] ∧ Q (.int (if b then 1 else 0)) H
theorem call_intB {X : Cx} : CallR X (.type "int") rIntB := by
  intro pins s σ H xs us Q I r h
  obtain ⟨b, rfl, q⟩ := h
  cases r with
  | cons r1 r2 =>
    cases r2
    cases r1
    exact call_int_bool ⟨.int (if b then 1 else 0), H, I.tok _, ⟨_, rfl⟩, q⟩
end L2
set_option Elab.async false
set_option linter.all false
set_option maxRecDepth 100000
set_option maxHeartbeats 4000000
/-! str(o) by an own __str__, C(.., k = v), t[::-1] -/
namespace L2
open PySem PySem.Spec PyProof.Rows
/-- a class with an own __eq__: != by object's, no kin of the plain types, isinstance -/
structure OwnC (K : PySem.W.Frag) (C : Addr) : Prop where
  ne : PySem.W.findIn K (.ref C) "__ne__" = some (some (.builtin "object.__ne__"))
  ob : PySem.W.subIn K (.ref C) (.type "object") = some true
  m1 : PySem.W.subIn K (.ref C) (.type "str") = some false
  m2 : PySem.W.subIn K (.ref C) (.type "int") = some false
  m3 : PySem.W.subIn K (.ref C) (.type "NoneType") = some false
  m4 : PySem.W.subIn K (.ref C) (.type "list") = some false
  ha : PySem.W.findIn K (.ref C) "__class__" = some (some (.builtin "object.__class__"))
  hn : PySem.W.specialIn K (.builtin "object.__class__") "__get__" = some (some (.builtin "getset_descriptor.__get__"))
  ht : PySem.W.takesIn K (.builtin "object.__class__") = some true
  hm : PySem.W.mroIn K C (.type "object") = some true
  k1 : PySem.W.kitOne K (.type "str") (.ref C) = some false
  k2 : PySem.W.kitOne K (.type "int") (.ref C) = some false
  k3 : PySem.W.kitOne K (.type "NoneType") (.ref C) = some false
  k4 : PySem.W.kitOne K (.type "list") (.ref C) = some false
section
variable {X : Cx} {CX : CXT} {n : Nat} {C f : Addr} {fd : FuncData} {ps : List Str} {sp : Sp} {E : XK}
def rStrO (C : Addr) (sp : Sp) (E : XK) : List V → Hp → VK → Prop := fun xs H Q => ∃ a dx fs, xs = [V.ref a] ∧ H a = some (.ins C dx fs) ∧ sp [.ref a] H (fun v H2 => ∃ y : Str, v = .str y ∧ Q (.str y) H2) E
theorem call_strO (hm : Meth X.K C "__str__" f) (F : FnOk X.prog X.w X.K X.mg X.base CX n f fd ps sp) (hr : Room (n + 2) X.A) (hb : Binds X.K fd ps []) (hx : Passes CX X E) : CallR X (.type "str") (rStrO C sp E) := by
  intro pins s σ H xs us Q I r h
  obtain ⟨a, dx, fs, rfl, ea, q⟩ := h
  obtain ⟨u, rfl, ru⟩ := vals1 r
  cases ru
  obtain ⟨mA, O, _, _, _, _⟩ := ins_get I.hok ea
  obtain ⟨od, J, _⟩ := O.look
  have hr2 : Room n X.A.in1.in1 := (hr.in1).in1
  have hl : ([Value.ref a] ++ ([] : List Value)).length = ps.length := by
    have := F.len _ _ _ _ q
    simpa using this
  refine PySem.W.kso_call hr2.units0 I.kIn J hm.at_ hm.fn (wpAny_call (codeAny_mono (F.run X.A.in1.in1 X.stack s H ⟨[.ref a], []⟩ [.ref a] [.ref a] _ E hr2 I.env0.in1.in1 (hb s [.ref a] I.kIn hl) (.cons rfl .nil) q) fun r s' hq => ?_))
  cases r with
  | error e => exact hx pins σ H s e s' I hq
  | ok fl =>
    cases fl with
    | ret u =>
      obtain ⟨v, H', I', rv, y, rfl, q'⟩ := I.after hq
      obtain ⟨t, rfl⟩ := rv
      exact ⟨.str y, H', I', ⟨_, rfl⟩, q'⟩
    | next => exact False.elim hq
    | brk => exact False.elim hq
    | cont => exact False.elim hq
theorem KBinds.kn {K : PySem.W.Frag} {fd : FuncData} {ps ks : List Str} {n : Nat} (h : KBinds K fd ps ks (kbGn n) (kbVn n)) (hp : n + ks.length = ps.length) : KBn K fd ps n ks (kbGn n) (kbVn n) :=
  ⟨fun s us ws X l1 l2 => h.to s us ws X (by rw [show kbGn n us ws = us ++ ws from if_pos l1, List.length_append, l1, l2, hp]), h.rel⟩
end
section
open HT
variable {prog : Program} {w : World} {A : Around} {E : Value → Shared → Prop} {s : Shared}
theorem sliceApplied_rev {sl : Addr} {vs : Value} {n : Nat} {Q : Int × Int × Nat → Shared → Prop} (hs : s.heap.IsSliceOf sl .none .none vs) (pv : IsPart vs (some (-1)))
    (h : Q (((n : Nat) : Int) - 1, -1, n) s) : wpAny (model prog w) A (Builtin.Slice.sliceApplied (.ref sl) (pure (n : Int))) Q E s := by
  obtain ⟨os, hos, hcs, hds⟩ := id hs
  unfold Builtin.Slice.sliceApplied Builtin.Slice.sliceFields
  refine wpAny_bind (wpAny_bind (wpAny_field hos hds (x := .none) rfl (wpAny_bind (wpAny_field hos hds (x := .none) rfl (wpAny_bind (wpAny_field hos hds (x := vs) rfl (wpAny_pure ?_)))))))
  refine wpAny_bind (slicePart_ pv ?_)
  show wpAny _ _ (if ((-1 : Int) == 0) = true then _ else _) _ _ s
  rw [if_neg (by decide)]
  refine wpAny_bind (slicePart_none (wpAny_bind (slicePart_none (wpAny_bind (wpAny_pure ?_)))))
  show wpAny _ _ (pure (((n : Nat) : Int) - 1, (-1 : Int), Builtin.Slice.slicePlaces (((n : Nat) : Int) - 1) (-1) (-1))) _ _ s
  have e : Builtin.Slice.slicePlaces (((n : Nat) : Int) - 1) (-1) (-1) = n := by
    unfold Builtin.Slice.slicePlaces
    rw [if_neg (by decide)]
    by_cases g : ((n : Nat) : Int) - 1 > -1
    · rw [if_pos g, show (- -1 : Int) = 1 by decide, Int.ediv_one]
      omega
    · rw [if_neg g]
      omega
  rw [e]
  exact wpAny_pure h
theorem fm_congr {α β : Type} {f g : α → Option β} : ∀ {l : List α}, (∀ x ∈ l, f x = g x) → l.filterMap f = l.filterMap g
  | [], _ => rfl
  | x :: r, h => by
    rw [List.filterMap_cons, List.filterMap_cons, h x List.mem_cons_self, fm_congr fun y hy => h y (List.mem_cons_of_mem _ hy)]
theorem pick_rev (xs : Array Value) : ((List.range xs.size).filterMap fun (m : Nat) => xs[(((xs.size : Nat) : Int) - 1 + (m : Int) * -1).toNat]?).toArray = xs.toList.reverse.toArray := by
  have e : (List.range xs.size).filterMap (fun (m : Nat) => xs[(((xs.size : Nat) : Int) - 1 + (m : Int) * -1).toNat]?) = ((List.range xs.size).map fun k => xs.size - 1 - k).filterMap (xs[·]?) := by
    rw [List.filterMap_map]
    refine fm_congr fun m hm => ?_
    have := List.mem_range.mp hm
    have e1 : (((xs.size : Nat) : Int) - 1 + (m : Int) * -1).toNat = xs.size - 1 - m := by omega
    rw [e1] <;> rfl
  rw [e, PySem.W.krv_range, List.filterMap_reverse, PySem.W.krv_all]
theorem getItem_tuple_rev {t sl : Addr} {items : Array Value} {vs : Value} {Q : Value → Shared → Prop} (ht : IsTup s.heap t items) (hs : s.heap.IsSliceOf sl .none .none vs) (pv : IsPart vs (some (-1)))
    (h : Q (.ref s.heap.objs.size) { s with heap := s.heap.push { cls := .type "tuple", data := .seq items.toList.reverse.toArray } })
    (hsz : items.size ≤ sizeLine) : wpAny (model prog w) A (getItem (.ref t) (.ref sl)) Q E s := by
  have htake : sizeOk (.seq items.toList.reverse.toArray) := by
    show items.toList.reverse.toArray.size ≤ sizeLine
    rw [List.size_toArray, List.length_reverse, Array.length_toList]
    exact hsz
  obtain ⟨os, hos, hcs, hds⟩ := id hs
  have hTs : s.TypeIs (.ref sl) "slice" := ⟨os, hos, hcs⟩
  unfold getItem
  try with_reducible refine wpAny_holding ?_
  first | refine wpAny_bind (wpAny_pure ?_) | skip
  refine wpAny_bind (wpAny_sequenceKey ht.typeIs (by decide) ?_)
  refine wpAny_bind (wpAny_callSpecial?_slot (name := Str.ofString "__getitem__") ht.typeIs PyProof.Rows.slot_tuple_getitem
    (wpAny_call_entry PyProof.Rows.slot_tuple_getitem ht.typeIs entry_tuple_getitem ?_ (args_tuple_getitem _ _)))
  show wpAny _ _ (Builtin.Tuple.tupleItemsOf (.ref t) >>= _) _ _ s
  refine wpAny_bind (tupleItemsOf_ ht ?_)
  refine wpAny_bind (wpAny_typeOf hTs ?_)
  rw [if_pos (by decide)]
  refine wpAny_bind (sliceApplied_rev hs pv ?_)
  have hno : ¬ (((((items.size : Nat) : Int) - 1) == 0 && (-1 : Int) == 1 && items.size == items.size) = true) := by
    intro q
    rw [Bool.and_eq_true, Bool.and_eq_true] at q
    have q1 : (-1 : Int) = 1 := eq_of_beq q.1.2
    omega
  show wpAny _ _ (if ((((items.size : Nat) : Int) - 1) == 0 && (-1 : Int) == 1 && items.size == items.size) = true then _ else _) _ _ s
  rw [if_neg hno, pick_rev]
  first
    | exact wpAny_bind (m := Builtin.Tuple.tupleExact _) (wpAny_newObj_type (wpAny_pure ⟨_, rfl, wpAny_pure h⟩) htake)
    | exact wpAny_bind (m := Builtin.Tuple.tupleExact _) (wpAny_newObj_type (wpAny_bind (wpAny_pure (wpAny_pure ⟨_, rfl, wpAny_pure h⟩))) htake)
    | exact wpAny_bind (wpAny_bind (m := Builtin.Tuple.tupleExact _) (wpAny_newObj_type (wpAny_pure (wpAny_pure ⟨_, rfl, wpAny_pure h⟩)) htake))
    | exact wpAny_bind (wpAny_bind (m := Builtin.Tuple.tupleExact _) (wpAny_newObj_type (wpAny_pure ⟨_, rfl, wpAny_pure h⟩) htake))
end
section
variable {X : Cx}
def tRevT (K : PySem.W.Frag) (te : TE) : TE := fun σ H Q => te σ H fun x H1 => ∃ a xs, x = .ref a ∧ SqT K H1 a xs ∧ ∀ p, H1 p = none → Q (.ref p) (upd H1 p (.tup xs.reverse))
theorem pe_revT {e : Expr} {te : TE} {k : Nat} {p1 p2 p3 pos : Pos} (he : PE X e te) : PE X (.Subscript e (.Slice none none (some (.UnaryOp .USub (.Constant (.int 1) k p1) p2)) p3) pos) (tRevT X.K te) := by
  refine ⟨fun pins s σ H Q I h => ?_⟩
  refine Subscript_ (thn (he.run pins s σ H _ I h) fun v s1 ⟨x, H1, I1, r1, q1⟩ => ?_)
  obtain ⟨a, xs, ex, hx, q⟩ := q1
  subst ex
  cases r1
  have hst : PO X (some (.UnaryOp .USub (.Constant (.int 1) k p1) p2)) (tPart (tUn (rU fun i => .int (-i)) (tC (.int 1)))) := po_some (pe_un un_neg pe_int)
  refine wpAny_Slice (thn (po_none.run pins s1 σ H1 (fun o H2 => o = none ∧ H2 = H1) I1 ⟨rfl, rfl⟩) fun vl s2 ⟨l, H2, I2, pl, el, e2⟩ => ?_)
  subst el e2
  refine thn (po_none.run pins s2 σ H2 (fun o H3 => o = none ∧ H3 = H2) I2 ⟨rfl, rfl⟩) fun vu s3 ⟨u, H3, I3, pu, eu, e3⟩ => ?_
  subst eu e3
  refine thn (hst.run pins s3 σ H3 (fun o H4 => o = some (-1) ∧ H4 = H3) I3 ⟨1, rfl, -1, rfl, rfl, rfl⟩) fun vs s4 ⟨o, H4, I4, ps, eo, e4⟩ => ?_
  subst eo e4
  cases pl
  cases pu
  have I5 : Inv X pins σ H4 { s4 with heap := s4.heap.push { cls := .type "slice", data := .fields #[.none, .none, vs] } } := I4.kept (t' := s4.toks) fun b ob q => Heap.get?_push_of_some _ q
  obtain ⟨its, r, ht, hz⟩ := I5.tuple hx
  have hlen := r.length
  show wpAny (model X.prog X.w) X.A (subscriptTail e (.Slice none none (some (.UnaryOp .USub (.Constant (.int 1) k p1) p2)) p3) (.ref a) (.ref s4.heap.objs.size)) (EP X pins σ Q) X.xe { s4 with heap := s4.heap.push { cls := .type "slice", data := .fields #[.none, .none, vs] } }
  refine tail_any (ops := [.ref a, .ref s4.heap.objs.size]) ht.typeIs (PyProof.Rows.slot_tuple_getitem.lookup) ?_ (by with_unfolding_all rfl)
  refine getItem_tuple_rev ht (Heap.IsSliceOf.new _ .none .none vs) ps ?_ (by rw [List.size_toArray]; omega)
  refine ⟨.ref _, _, I5.laid (t' := s4.toks) (o := .tup xs.reverse) (fun b ob q => Heap.get?_push_of_some _ q) (Nat.le_refl _) ?_, rfl, q _ (I5.hok.fresh (Nat.le_refl _))⟩
  exact ⟨by rw [List.length_reverse]; exact hz, _, r.reverse, IsTup.new _ _⟩
end
end L2
set_option Elab.async false
set_option linter.all false
set_option maxRecDepth 100000
set_option maxHeartbeats 4000000
/-! a, b, c, *rest = a list; a def called by names alone -/
namespace L2
open PySem PySem.Spec PyProof.Rows
section
variable {prog : Program} {w : World} {A : Around} {E : Value → Shared → Prop} {s : Shared}
theorem walks_from (hh : A.handled = none) (I ax : Addr) (hne : ax ≠ I) (items : Array Value) (k : Nat) (hk : k ≤ items.size) :
    Walks prog w A I [I, ax] [I] (items.size - k) (fun i v => items[i + k]? = some v) (fun i h => h.IsListIter I ax (i + k) ∧ h.IsList ax items) where
  sub := (Walks.list (prog := prog) (w := w) hh I ax hne items).sub
  frame := fun i h h' st hx => (Walks.list (prog := prog) (w := w) hh I ax hne items).frame (i + k) h h' st hx
  item := fun i s Q E hi st hQ => (Walks.list (prog := prog) (w := w) hh I ax hne items).item (i + k) s Q E (by omega) st fun v h' tk hP st' hx => hQ v h' tk hP (by rw [show i + 1 + k = i + k + 1 by omega]; exact st') hx
  done := fun s Q E st hQ => (Walks.list (prog := prog) (w := w) hh I ax hne items).done s Q E (by rw [show items.size - k + k = items.size by omega] at st; exact st) hQ
  self := fun i s Q E st hQ => (Walks.list (prog := prog) (w := w) hh I ax hne items).self (i + k) s Q E st hQ
theorem kun_star {l : Addr} {items : Array Value} {k : Nat} {Q : List Value → Shared → Prop} (hh : A.handled = none) (hl : s.heap.IsList l items) (hk : k ≤ items.size) (hz : items.size ≤ sizeLine)
    (hQ : ∀ (h1 : Heap) (tk : Nat), (∀ b o, s.heap.get? b = some o → h1.get? b = some o) → Q (items.toList.take k ++ [.ref h1.objs.size]) { s with heap := h1.push { cls := .type "list", data := .seq (items.toList.drop k).toArray }, toks := tk }) :
    wpAny (model prog w) A (unpackItems (.ref l) (k + 1) (some k)) Q E s := by
  have hlt : l ≠ s.heap.objs.size := by obtain ⟨o, ho, _⟩ := hl; exact Nat.ne_of_lt (Heap.lt_size ho)
  unfold unpackItems
  refine wpAny_bind ?_
  · unfold notIterableAtAll
    refine wpAny_bind (wpAny_specialOf hl.typeIs PySem.slot_list_iter.lookup ?_)
    refine wpAny_pure ?_
    simp only [Bool.false_eq_true, if_false]
    refine wpAny_bind (wpAny_holding (wpAny_pyIter_list hl ?_))
    refine wpAny_bind (wpAny_holding (PySem.W.kun_draw hlt k 0 _ _ ⟨_, Heap.get?_push_size _ rfl, rfl, rfl⟩ (hl.push _) (by omega) fun h₁ hit₁ hs₁ => ?_))
    rw [List.drop_zero, Nat.zero_add] at *
    have hln : (items.toList.take k).length = k := by
      rw [List.length_take, Array.length_toList]
      omega
    rw [if_neg (by rw [hln]; omega)]
    have hl₁ : h₁.IsList l items := (hl.push _).extBut hs₁.extBut hlt
    obtain ⟨oi, hoi, _⟩ := id hit₁
    obtain ⟨ol, hol, _⟩ := id hl₁
    refine wpAny_bind (wpAny_holding (wpAny_collect_iter (T := "list_iterator") (.inr (.inr (.inl rfl))) (walks_from (A := A.in1) hh s.heap.objs.size l hlt items k hk).toS (fun i s st => st.1.typeIs) ⟨by rw [Nat.zero_add]; exact hit₁, hl₁⟩ (fun b hb => ?_) (by simp) (fun s' acc hm hacc => ?_) (by omega)))
    · simp only [List.mem_cons, List.not_mem_nil, or_false] at hb
      rcases hb with rfl | rfl
      · exact Heap.lt_size hoi
      · exact Heap.lt_size hol
    have ea : acc.toList = items.toList.drop k := by
      apply List.ext_getElem?
      intro j
      rw [List.getElem?_drop, Array.getElem?_toList, Array.getElem?_toList]
      by_cases hj : j < acc.size
      · have := hacc.2 j acc[j] (by simp [hj])
        rw [Nat.add_comm k j, this]
        simp [hj]
      · have h1 := hacc.1
        rw [Array.getElem?_eq_none (by omega), Array.getElem?_eq_none (by omega)]
    have lr : acc.toList.length ≤ sizeLine := by rw [ea, List.length_drop, Array.length_toList]; omega
    rw [show k + 1 - 1 - k = 0 by omega, if_neg (by omega), Nat.sub_zero, List.take_length, List.drop_length]
    refine wpAny_bind (wpAny_newList ?_ lr)
    refine wpAny_pure ?_
    rw [List.append_nil, Moved.eq_with hm, ea]
    refine hQ s'.heap s'.toks fun b o e => hm.heap b o (fun z => ?_) (hs₁.extBut b o (Nat.ne_of_lt (Heap.lt_size e)) (Heap.get?_push_of_some _ e))
    rw [List.mem_singleton.mp z] at e
    exact absurd (Heap.lt_size e) (Nat.lt_irrefl _)
end
section
variable {X : Cx} {pos : Pos}
def gStar3 (K : PySem.W.Frag) (g1 g2 g3 g4 : TG) : TG := fun v σ H Q => ∃ a x y z xs, v = .ref a ∧ SqL K H a (x :: y :: z :: xs) ∧ ∀ p, H p = none →
  g1 x σ (upd H p (.lst xs)) fun σ1 H1 => g2 y σ1 H1 fun σ2 H2 => g3 z σ2 H2 fun σ3 H3 => g4 (.ref p) σ3 H3 Q
theorem pg_star3 {e1 e2 e3 e4 : Expr} {g1 g2 g3 g4 : TG} {k : Nat} {p4 : Pos} (hc : X.calm = true) (h1 : PG X e1 g1) (h2 : PG X e2 g2) (h3 : PG X e3 g3) (h4 : PG X e4 g4)
    (hm : (assignEach [e1, e2, e3, .Starred e4 p4] X.env).map (·.2) = [assign e1 X.env, assign e2 X.env, assign e3 X.env, assign e4 X.env] := by rfl)
    (hst : (assignEach [e1, e2, e3, .Starred e4 p4] X.env).findIdx? (·.1) = some 3 := by rfl) (hn : (assignEach [e1, e2, e3, .Starred e4 p4] X.env).length = 4 := by rfl) : PG X (.Tuple [e1, e2, e3, .Starred e4 p4] k pos) (gStar3 X.K g1 g2 g3 g4) := by
  refine ⟨fun pins s σ H v u Q I r hw => ?_⟩
  obtain ⟨a, x, y, z, xs, e0, hq, hw⟩ := hw
  subst e0
  cases r
  obtain ⟨its, rv, pl, hz⟩ := I.list hq
  have hl' : s.heap.IsList a its.toArray := by
    obtain ⟨o, m, e, c, d, q⟩ := pl
    exact ⟨o, e, c, m, q⟩
  have hln : its.length = xs.length + 3 := by rw [← rv.length] <;> rfl
  rw [PyProof.Rows.assign_Tuple]
  refine wpAny_bind (wpAny_standAt ?_)
  unfold unpack
  rw [hn, hst, hm]
  have hz' : (x :: y :: z :: xs).length ≤ sizeLine := hz
  have hzl : its.toArray.size ≤ sizeLine := by rw [List.size_toArray, ← rv.length]; exact hz'
  refine wpAny_bind (wpAny_holding (kun_star (k := 3) (I.ok.hd hc) hl' (by rw [List.size_toArray]; omega) hzl fun h1' tk hx => ?_))
  have I1 : Inv X pins σ H { s with heap := h1', toks := tk } := I.kept (t' := tk) fun b o e => hx b o e
  have hp : H h1'.objs.size = none := I1.hok.fresh (Nat.le_refl _)
  cases rv with
  | @cons _ u1 _ us1 r1 rv =>
    cases rv with
    | @cons _ u2 _ us2 r2 rv =>
      cases rv with
      | @cons _ u3 _ us3 r3 rv =>
        have I2 : Inv X pins σ (upd H h1'.objs.size (.lst xs)) { s with heap := h1'.push { cls := .type "list", data := .seq us3.toArray }, toks := tk } :=
          I1.laid (t' := tk) (o := .lst xs) (fun b ob q => Heap.get?_push_of_some _ q) (Nat.le_refl _) ⟨by simp only [List.length_cons] at hz'; omega, _, 0, rv, Heap.get?_push_size _ rfl⟩
        show wpAny _ _ (assignInOrder _ [u1, u2, u3, .ref h1'.objs.size]) _ _ { s with heap := h1'.push { cls := .type "list", data := .seq us3.toArray }, toks := tk }
        refine assignInOrder_cons (thn (h1.run pins _ σ _ _ _ _ I2 r1 (hw _ hp)) fun _ s1 ⟨σ1, H1, J1, q1⟩ => ?_)
        refine assignInOrder_cons (thn (h2.run pins s1 σ1 H1 _ _ _ J1 r2 q1) fun _ s2 ⟨σ2, H2, J2, q2⟩ => ?_)
        refine assignInOrder_cons (thn (h3.run pins s2 σ2 H2 _ _ _ J2 r3 q2) fun _ s3 ⟨σ3, H3, J3, q3⟩ => ?_)
        refine assignInOrder_cons (thn (h4.run pins s3 σ3 H3 (.ref h1'.objs.size) (.ref h1'.objs.size) _ J3 rfl q3) fun _ s4 ⟨σ4, H4, J4, q4⟩ => ?_)
        exact assignInOrder_nil ⟨σ4, H4, J4, q4⟩
end
section
variable {X : Cx} {CX : CXT} {k : Nat} {f : Addr} {fd : FuncData} {ps ks : List Str} {sp : Sp} {E : XK} {x : Str} {p pos : Pos} {kws : List Keyword} {tk : TA} {g : List Value → List Value → List Value} {gV : List V → List V → List V}
theorem pe_callK0 (F : FnOk X.prog X.w X.K X.mg X.base CX k f fd ps sp) (hr : Room k X.A) (hg : Gl X x) (hm : X.mg x = some (.ref f)) (hk : PySem.W.keepIn X.K (.ref f) = true) (hb : KBinds X.K fd ps ks g gV) (hx : Passes CX X E)
    (hkw : PK X kws tk) (hall : (backToKw pos (keywordEach kws X.env)).all (·.1.isSome) = true := by rfl) (hks : (backToKw pos (keywordEach kws X.env)).filterMap (·.1) = ks := by rfl)
    (hdb : (x == ("__debug__" : Str)) = false := by decide) (hpl : ((backTo pos (starEach [] X.env)).any (·.1) || (backToKw pos (keywordEach kws X.env)).any (·.1.isNone)) = false := by rfl) :
    PE X (.Call (.Name x p) [] kws pos) (tCallK sp gV E tNil tk) := by
  refine ⟨fun pins s σ H Q I h => ?_⟩
  refine wpAny_Call_Name_kw (ld_glob I hg hm ?_ hdb)
  refine PySem.W.callWith_KW0 (h₀ := X.base) I.ok.mod.kin hk hall ?_ hpl
  refine thn (hkw.run pos pins s σ H _ I h) fun ws s2 ⟨zs, H2, I2, rz, q2⟩ => ⟨I2.kIn, ?_⟩
  rw [hks]
  exact run_fnk (us := []) (vs := []) F hr hb hx I2 .nil rz q2
end
end L2
set_option Elab.async false
set_option linter.all false
set_option maxRecDepth 100000
set_option maxHeartbeats 4000000
namespace Pf
open PySem L2
def top (i : Nat) : Stmt := PySem.Challenge.pw_pactford_k04_pacts_texts.main.body.getD i (.Pass ⟨0, 0, 0, 0⟩)
abbrev s_NoPact___init__ : Stmt := inClass (top 3) 0
abbrev n_NoPact___init__ : List Str := ["self", "at"]
theorem sc_NoPact___init__ : FnScope n_NoPact___init__ ["self", "at"] (defScope s_NoPact___init__) := ⟨rfl, rfl, rfl, by decide +kernel, rfl, by decide +kernel, by decide +kernel⟩
abbrev s_NoText___init__ : Stmt := inClass (top 4) 0
abbrev n_NoText___init__ : List Str := ["self", "at"]
theorem sc_NoText___init__ : FnScope n_NoText___init__ ["self", "at"] (defScope s_NoText___init__) := ⟨rfl, rfl, rfl, by decide +kernel, rfl, by decide +kernel, by decide +kernel⟩
abbrev s_NoHelper___init__ : Stmt := inClass (top 5) 0
abbrev n_NoHelper___init__ : List Str := ["self", "name"]
theorem sc_NoHelper___init__ : FnScope n_NoHelper___init__ ["self", "name"] (defScope s_NoHelper___init__) := ⟨rfl, rfl, rfl, by decide +kernel, rfl, by decide +kernel, by decide +kernel⟩
abbrev s_is_name : Stmt := top 9
abbrev n_is_name : List Str := ["word", "sign"]
theorem sc_is_name : FnScope n_is_name ["word"] (defScope s_is_name) := ⟨rfl, rfl, rfl, by decide +kernel, rfl, by decide +kernel, by decide +kernel⟩
abbrev s_Pacts___init__ : Stmt := inClass (top 16) 0
abbrev n_Pacts___init__ : List Str := ["self", "pairs", "helpers", "at", "pair", "helper"]
theorem sc_Pacts___init__ : FnScope n_Pacts___init__ ["self", "pairs", "helpers"] (defScope s_Pacts___init__) := ⟨rfl, rfl, rfl, by decide +kernel, rfl, by decide +kernel, by decide +kernel⟩
abbrev s_Pacts_fits_pair : Stmt := inClass (top 16) 1
abbrev n_Pacts_fits_pair : List Str := ["self", "pair", "near", "far", "laden"]
theorem sc_Pacts_fits_pair : FnScope n_Pacts_fits_pair ["self", "pair"] (defScope s_Pacts_fits_pair) := ⟨rfl, rfl, rfl, by decide +kernel, rfl, by decide +kernel, by decide +kernel⟩
abbrev s_Pacts_fits_helper : Stmt := inClass (top 16) 2
abbrev n_Pacts_fits_helper : List Str := ["self", "helper", "name", "side", "takes", "gives", "throws", "how", "word"]
theorem sc_Pacts_fits_helper : FnScope n_Pacts_fits_helper ["self", "helper"] (defScope s_Pacts_fits_helper) := ⟨rfl, rfl, rfl, by decide +kernel, rfl, by decide +kernel, by decide +kernel⟩
abbrev s_Pacts_words_called : Stmt := inClass (top 16) 3
abbrev n_Pacts_words_called : List Str := ["self", "side", "pair"]
theorem sc_Pacts_words_called : FnScope n_Pacts_words_called ["self", "side"] (defScope s_Pacts_words_called) := ⟨rfl, rfl, rfl, by decide +kernel, rfl, by decide +kernel, by decide +kernel⟩
abbrev s_Pacts_pairs : Stmt := inClass (top 16) 5
abbrev n_Pacts_pairs : List Str := ["self"]
theorem sc_Pacts_pairs : FnScope n_Pacts_pairs ["self"] (defScope s_Pacts_pairs) := ⟨rfl, rfl, rfl, by decide +kernel, rfl, by decide +kernel, by decide +kernel⟩
abbrev s_Pacts_names : Stmt := inClass (top 16) 6
abbrev n_Pacts_names : List Str := ["self", "side", "name", "pact"]
theorem sc_Pacts_names : FnScope n_Pacts_names ["self", "side"] (defScope s_Pacts_names) := ⟨rfl, rfl, rfl, by decide +kernel, rfl, by decide +kernel, by decide +kernel⟩
abbrev s_Pacts_pact : Stmt := inClass (top 16) 7
abbrev n_Pacts_pact : List Str := ["self", "name"]
theorem sc_Pacts_pact : FnScope n_Pacts_pact ["self", "name"] (defScope s_Pacts_pact) := ⟨rfl, rfl, rfl, by decide +kernel, rfl, by decide +kernel, by decide +kernel⟩
abbrev s_Pacts___len__ : Stmt := inClass (top 16) 11
abbrev n_Pacts___len__ : List Str := ["self"]
theorem sc_Pacts___len__ : FnScope n_Pacts___len__ ["self"] (defScope s_Pacts___len__) := ⟨rfl, rfl, rfl, by decide +kernel, rfl, by decide +kernel, by decide +kernel⟩
abbrev s_Pacts___eq__ : Stmt := inClass (top 16) 12
abbrev n_Pacts___eq__ : List Str := ["self", "other"]
theorem sc_Pacts___eq__ : FnScope n_Pacts___eq__ ["self", "other"] (defScope s_Pacts___eq__) := ⟨rfl, rfl, rfl, by decide +kernel, rfl, by decide +kernel, by decide +kernel⟩
abbrev s_Pacts_lines_told : Stmt := inClass (top 16) 13
abbrev n_Pacts_lines_told : List Str := ["self", "pact"]
theorem sc_Pacts_lines_told : FnScope n_Pacts_lines_told ["self"] (defScope s_Pacts_lines_told) := ⟨rfl, rfl, rfl, by decide +kernel, rfl, by decide +kernel, by decide +kernel⟩
abbrev s_Pacts___str__ : Stmt := inClass (top 16) 14
abbrev n_Pacts___str__ : List Str := ["self", "pair"]
theorem sc_Pacts___str__ : FnScope n_Pacts___str__ ["self"] (defScope s_Pacts___str__) := ⟨rfl, rfl, rfl, by decide +kernel, rfl, by decide +kernel, by decide +kernel⟩
abbrev s_pair_line : Stmt := top 17
abbrev n_pair_line : List Str := ["pair", "near", "far", "laden"]
theorem sc_pair_line : FnScope n_pair_line ["pair"] (defScope s_pair_line) := ⟨rfl, rfl, rfl, by decide +kernel, rfl, by decide +kernel, by decide +kernel⟩
abbrev s_helper_line : Stmt := top 18
abbrev n_helper_line : List Str := ["pact", "name", "side", "takes", "gives", "throws", "words"]
theorem sc_helper_line : FnScope n_helper_line ["pact"] (defScope s_helper_line) := ⟨rfl, rfl, rfl, by decide +kernel, rfl, by decide +kernel, by decide +kernel⟩
abbrev s_read_pair : Stmt := top 19
abbrev n_read_pair : List Str := ["words", "at"]
theorem sc_read_pair : FnScope n_read_pair ["words", "at"] (defScope s_read_pair) := ⟨rfl, rfl, rfl, by decide +kernel, rfl, by decide +kernel, by decide +kernel⟩
abbrev s_read_helper : Stmt := top 20
abbrev n_read_helper : List Str := ["words", "at", "first", "name", "side", "rest", "takes", "gives"]
theorem sc_read_helper : FnScope n_read_helper ["words", "at"] (defScope s_read_helper) := ⟨rfl, rfl, rfl, by decide +kernel, rfl, by decide +kernel, by decide +kernel⟩
abbrev s_read_pacts : Stmt := top 21
abbrev n_read_pacts : List Str := ["text", "pairs", "helpers", "lines", "at", "line", "words"]
theorem sc_read_pacts : FnScope n_read_pacts ["text"] (defScope s_read_pacts) := ⟨rfl, rfl, rfl, by decide +kernel, rfl, by decide +kernel, by decide +kernel⟩
abbrev s__law_box : Stmt := top 23
abbrev n__law_box : List Str := ["_law_script", "_law_great", "_law_cell"]
theorem sc__law_box : FnScope n__law_box ["_law_script"] (defScope s__law_box) := ⟨rfl, rfl, rfl, by decide +kernel, rfl, by decide +kernel, by decide +kernel⟩
abbrev s__law_mixed : Stmt := top 24
abbrev n__law_mixed : List Str := ["_law_cell", "_law_k", "_law_whole"]
theorem sc__law_mixed : FnScope n__law_mixed ["_law_cell", "_law_k"] (defScope s__law_mixed) := ⟨rfl, rfl, rfl, by decide +kernel, rfl, by decide +kernel, by decide +kernel⟩
abbrev s__law_take : Stmt := top 25
abbrev n__law_take : List Str := ["_law_box_here", "_law_size", "_law_found", "_law_cell", "_law_reach"]
theorem sc__law_take : FnScope n__law_take ["_law_box_here", "_law_size"] (defScope s__law_take) := ⟨rfl, rfl, rfl, by decide +kernel, rfl, by decide +kernel, by decide +kernel⟩
abbrev s__law_name : Stmt := top 26
abbrev n__law_name : List Str := ["_law_box_here", "_law_many", "_law_k"]
theorem sc__law_name : FnScope n__law_name ["_law_box_here"] (defScope s__law_name) := ⟨rfl, rfl, rfl, by decide +kernel, rfl, by decide +kernel, by decide +kernel⟩
abbrev s__law_names : Stmt := top 27
abbrev n__law_names : List Str := ["_law_box_here", "_law_many", "_law_found", "_law_k", "_law_name_here", "_law_spare"]
theorem sc__law_names : FnScope n__law_names ["_law_box_here", "_law_many"] (defScope s__law_names) := ⟨rfl, rfl, rfl, by decide +kernel, rfl, by decide +kernel, by decide +kernel⟩
abbrev s__law_pairs : Stmt := top 28
abbrev n__law_pairs : List Str := ["_law_box_here", "_law_most", "_law_nears", "_law_fars", "_law_near", "_law_far"]
theorem sc__law_pairs : FnScope n__law_pairs ["_law_box_here", "_law_most"] (defScope s__law_pairs) := ⟨rfl, rfl, rfl, by decide +kernel, rfl, by decide +kernel, by decide +kernel⟩
abbrev s__law_some : Stmt := top 29
abbrev n__law_some : List Str := ["_law_box_here", "_law_things", "_law_most", "_law_pool", "_law_k"]
theorem sc__law_some : FnScope n__law_some ["_law_box_here", "_law_things", "_law_most"] (defScope s__law_some) := ⟨rfl, rfl, rfl, by decide +kernel, rfl, by decide +kernel, by decide +kernel⟩
abbrev s__law_helpers : Stmt := top 30
abbrev n__law_helpers : List Str := ["_law_box_here", "_law_pairs_here", "_law_names_here", "_law_counts", "_law_found", "_law_side", "_law_k", "_law_takes", "_law_throws", "_law_helper", "_law_j", "_law_pair"]
theorem sc__law_helpers : FnScope n__law_helpers ["_law_box_here", "_law_pairs_here"] (defScope s__law_helpers) := ⟨rfl, rfl, rfl, by decide +kernel, rfl, by decide +kernel, by decide +kernel⟩
abbrev s__law_line : Stmt := top 31
abbrev n__law_line : List Str := ["_law_helper", "_law_name_here", "_law_side", "_law_takes", "_law_gives", "_law_throws", "_law_found", "_law_how"]
theorem sc__law_line : FnScope n__law_line ["_law_helper"] (defScope s__law_line) := ⟨rfl, rfl, rfl, by decide +kernel, rfl, by decide +kernel, by decide +kernel⟩
abbrev s__law_text : Stmt := top 32
abbrev n__law_text : List Str := ["_law_pairs_here", "_law_helpers_here", "_law_sheet", "_law_near", "_law_far", "_law_laden", "_law_helper"]
theorem sc__law_text : FnScope n__law_text ["_law_pairs_here", "_law_helpers_here"] (defScope s__law_text) := ⟨rfl, rfl, rfl, by decide +kernel, rfl, by decide +kernel, by decide +kernel⟩
abbrev s__law_pair_read : Stmt := top 33
abbrev n__law_pair_read : List Str := ["_law_words"]
theorem sc__law_pair_read : FnScope n__law_pair_read ["_law_words"] (defScope s__law_pair_read) := ⟨rfl, rfl, rfl, by decide +kernel, rfl, by decide +kernel, by decide +kernel⟩
abbrev s__law_helper_read : Stmt := top 34
abbrev n__law_helper_read : List Str := ["_law_words", "_law_at", "_law_takes", "_law_gives", "_law_rest"]
theorem sc__law_helper_read : FnScope n__law_helper_read ["_law_words"] (defScope s__law_helper_read) := ⟨rfl, rfl, rfl, by decide +kernel, rfl, by decide +kernel, by decide +kernel⟩
abbrev s__law_read : Stmt := top 35
abbrev n__law_read : List Str := ["_law_page", "_law_pairs_here", "_law_helpers_here", "_law_sheet", "_law_at", "_law_line_here", "_law_words", "_law_told"]
theorem sc__law_read : FnScope n__law_read ["_law_page"] (defScope s__law_read) := ⟨rfl, rfl, rfl, by decide +kernel, rfl, by decide +kernel, by decide +kernel⟩
abbrev s__law_is_name : Stmt := top 36
abbrev n__law_is_name : List Str := ["_law_word", "_law_sign"]
theorem sc__law_is_name : FnScope n__law_is_name ["_law_word"] (defScope s__law_is_name) := ⟨rfl, rfl, rfl, by decide +kernel, rfl, by decide +kernel, by decide +kernel⟩
abbrev s__law_pair_fits : Stmt := top 37
abbrev n__law_pair_fits : List Str := ["_law_ahead", "_law_pair", "_law_near", "_law_far", "_law_laden", "_law_one"]
theorem sc__law_pair_fits : FnScope n__law_pair_fits ["_law_ahead", "_law_pair"] (defScope s__law_pair_fits) := ⟨rfl, rfl, rfl, by decide +kernel, rfl, by decide +kernel, by decide +kernel⟩
abbrev s__law_helper_fits : Stmt := top 38
abbrev n__law_helper_fits : List Str := ["_law_pairs_here", "_law_ahead", "_law_helper", "_law_name_here", "_law_side", "_law_takes", "_law_gives", "_law_throws", "_law_words", "_law_at", "_law_word", "_law_one", "_law_pair", "_law_how"]
theorem sc__law_helper_fits : FnScope n__law_helper_fits ["_law_pairs_here", "_law_ahead", "_law_helper"] (defScope s__law_helper_fits) := ⟨rfl, rfl, rfl, by decide +kernel, rfl, by decide +kernel, by decide +kernel⟩
abbrev s__law_first_bad : Stmt := top 39
abbrev n__law_first_bad : List Str := ["_law_pairs_here", "_law_helpers_here", "_law_at", "_law_pair", "_law_helper"]
theorem sc__law_first_bad : FnScope n__law_first_bad ["_law_pairs_here", "_law_helpers_here"] (defScope s__law_first_bad) := ⟨rfl, rfl, rfl, by decide +kernel, rfl, by decide +kernel, by decide +kernel⟩
abbrev s__law_row_changed : Stmt := top 40
abbrev n__law_row_changed : List Str := ["_law_box_here", "_law_row", "_law_way", "_law_at", "_law_to"]
theorem sc__law_row_changed : FnScope n__law_row_changed ["_law_box_here", "_law_row"] (defScope s__law_row_changed) := ⟨rfl, rfl, rfl, by decide +kernel, rfl, by decide +kernel, by decide +kernel⟩
abbrev s__law_changed : Stmt := top 41
abbrev n__law_changed : List Str := ["_law_box_here", "_law_page", "_law_way", "_law_sheet", "_law_at", "_law_spot", "_law_words", "_law_odd", "_law_signs", "_law_sign"]
theorem sc__law_changed : FnScope n__law_changed ["_law_box_here", "_law_page"] (defScope s__law_changed) := ⟨rfl, rfl, rfl, by decide +kernel, rfl, by decide +kernel, by decide +kernel⟩
abbrev s__law_made : Stmt := top 42
abbrev n__law_made : List Str := ["_law_page", "_law_found", "e"]
theorem sc__law_made : FnScope n__law_made ["_law_page"] (defScope s__law_made) := ⟨rfl, rfl, rfl, by decide +kernel, rfl, by decide +kernel, by decide +kernel⟩
abbrev s_law : Stmt := top 43
abbrev n_law : List Str := ["_law_script", "_law_box_here", "_law_changes", "_law_pairs_here", "_law_helpers_here", "_law_page", "_law_k", "_law_seen", "_law_found", "_law_line_here", "_law_helper"]
theorem sc_law : FnScope n_law ["_law_script"] (defScope s_law) := ⟨rfl, rfl, rfl, by decide +kernel, rfl, by decide +kernel, by decide +kernel⟩
structure Ad where
  k_HOWS : Addr
  c_Pacts : Addr
  c_PactError : Addr
  c_NoPact : Addr
  c_NoText : Addr
  c_NoHelper : Addr
  f_NoPact___init__ : Addr
  d_NoPact___init__ : FuncData
  f_NoText___init__ : Addr
  d_NoText___init__ : FuncData
  f_NoHelper___init__ : Addr
  d_NoHelper___init__ : FuncData
  f_is_name : Addr
  d_is_name : FuncData
  f_Pacts___init__ : Addr
  d_Pacts___init__ : FuncData
  f_Pacts_fits_pair : Addr
  d_Pacts_fits_pair : FuncData
  f_Pacts_fits_helper : Addr
  d_Pacts_fits_helper : FuncData
  f_Pacts_words_called : Addr
  d_Pacts_words_called : FuncData
  f_Pacts_pairs : Addr
  d_Pacts_pairs : FuncData
  f_Pacts_names : Addr
  d_Pacts_names : FuncData
  f_Pacts_pact : Addr
  d_Pacts_pact : FuncData
  f_Pacts___len__ : Addr
  d_Pacts___len__ : FuncData
  f_Pacts___eq__ : Addr
  d_Pacts___eq__ : FuncData
  f_Pacts_lines_told : Addr
  d_Pacts_lines_told : FuncData
  f_Pacts___str__ : Addr
  d_Pacts___str__ : FuncData
  f_pair_line : Addr
  d_pair_line : FuncData
  f_helper_line : Addr
  d_helper_line : FuncData
  f_read_pair : Addr
  d_read_pair : FuncData
  f_read_helper : Addr
  d_read_helper : FuncData
  f_read_pacts : Addr
  d_read_pacts : FuncData
  f__law_box : Addr
  d__law_box : FuncData
  f__law_mixed : Addr
  d__law_mixed : FuncData
  f__law_take : Addr
  d__law_take : FuncData
  f__law_name : Addr
  d__law_name : FuncData
  f__law_names : Addr
  d__law_names : FuncData
  f__law_pairs : Addr
  d__law_pairs : FuncData
  f__law_some : Addr
  d__law_some : FuncData
  f__law_helpers : Addr
  d__law_helpers : FuncData
  f__law_line : Addr
  d__law_line : FuncData
  f__law_text : Addr
  d__law_text : FuncData
  f__law_pair_read : Addr
  d__law_pair_read : FuncData
  f__law_helper_read : Addr
  d__law_helper_read : FuncData
  f__law_read : Addr
  d__law_read : FuncData
  f__law_is_name : Addr
  d__law_is_name : FuncData
  f__law_pair_fits : Addr
  d__law_pair_fits : FuncData
  f__law_helper_fits : Addr
  d__law_helper_fits : FuncData
  f__law_first_bad : Addr
  d__law_first_bad : FuncData
  f__law_row_changed : Addr
  d__law_row_changed : FuncData
  f__law_changed : Addr
  d__law_changed : FuncData
  f__law_made : Addr
  d__law_made : FuncData
  f_law : Addr
  d_law : FuncData
structure Txt (K : PySem.W.Frag) (mg : Str → Option Value) (a : Ad) : Prop where
  m_Pacts : mg "Pacts" = some (.ref a.c_Pacts)
  cl_Pacts : Cls K a.c_Pacts
  mk_Pacts : Mk K a.c_Pacts a.f_Pacts___init__
  oc_Pacts : OwnC K a.c_Pacts
  na_Pacts_kept_pairs : NoAttr K a.c_Pacts "kept_pairs"
  na_Pacts_kept_pacts : NoAttr K a.c_Pacts "kept_pacts"
  m_PactError : mg "PactError" = some (.ref a.c_PactError)
  m_NoPact : mg "NoPact" = some (.ref a.c_NoPact)
  ox_NoPact : OexC K a.c_NoPact
  xf_NoPact : XfC K a.c_NoPact
  ec_NoPact : ExcC K a.c_NoPact
  ini_NoPact : PySem.W.findIn K (.ref a.c_NoPact) "__init__" = some (some (.ref a.f_NoPact___init__))
  ti_NoPact : PySem.W.typeIn K (.ref a.f_NoPact___init__) = some (.type "function")
  na_NoPact_at : PySem.W.findIn K (.ref a.c_NoPact) "at" = some none
  m_NoText : mg "NoText" = some (.ref a.c_NoText)
  ox_NoText : OexC K a.c_NoText
  xf_NoText : XfC K a.c_NoText
  ec_NoText : ExcC K a.c_NoText
  ini_NoText : PySem.W.findIn K (.ref a.c_NoText) "__init__" = some (some (.ref a.f_NoText___init__))
  ti_NoText : PySem.W.typeIn K (.ref a.f_NoText___init__) = some (.type "function")
  na_NoText_at : PySem.W.findIn K (.ref a.c_NoText) "at" = some none
  m_NoHelper : mg "NoHelper" = some (.ref a.c_NoHelper)
  ox_NoHelper : OexC K a.c_NoHelper
  xf_NoHelper : XfC K a.c_NoHelper
  ec_NoHelper : ExcC K a.c_NoHelper
  ini_NoHelper : PySem.W.findIn K (.ref a.c_NoHelper) "__init__" = some (some (.ref a.f_NoHelper___init__))
  ti_NoHelper : PySem.W.typeIn K (.ref a.f_NoHelper___init__) = some (.type "function")
  na_NoHelper_name : PySem.W.findIn K (.ref a.c_NoHelper) "name" = some none
  ex_NoPact_NoPact : PySem.W.exmOne K (.ref a.c_NoPact) (.ref a.c_NoPact) = some true
  ex_NoPact_PactError : PySem.W.exmOne K (.ref a.c_NoPact) (.ref a.c_PactError) = some true
  ex_NoPact_NoText : PySem.W.exmOne K (.ref a.c_NoPact) (.ref a.c_NoText) = some false
  ex_NoPact_ValueError : PySem.W.subIn K (.ref a.c_NoPact) (.type "ValueError") = some true
  ex_NoText_NoText : PySem.W.exmOne K (.ref a.c_NoText) (.ref a.c_NoText) = some true
  ex_NoText_PactError : PySem.W.exmOne K (.ref a.c_NoText) (.ref a.c_PactError) = some true
  ex_NoText_NoPact : PySem.W.exmOne K (.ref a.c_NoText) (.ref a.c_NoPact) = some false
  ex_NoText_ValueError : PySem.W.subIn K (.ref a.c_NoText) (.type "ValueError") = some true
  F_NoPact___init__ : Fun K "__init__" "NoPact.__init__" s_NoPact___init__ a.f_NoPact___init__ a.d_NoPact___init__
  b_NoPact___init__ : Binds K a.d_NoPact___init__ ["self", "at"] []
  F_NoText___init__ : Fun K "__init__" "NoText.__init__" s_NoText___init__ a.f_NoText___init__ a.d_NoText___init__
  b_NoText___init__ : Binds K a.d_NoText___init__ ["self", "at"] []
  F_NoHelper___init__ : Fun K "__init__" "NoHelper.__init__" s_NoHelper___init__ a.f_NoHelper___init__ a.d_NoHelper___init__
  b_NoHelper___init__ : Binds K a.d_NoHelper___init__ ["self", "name"] []
  F_is_name : Fun K "is_name" "is_name" s_is_name a.f_is_name a.d_is_name
  b_is_name : Binds K a.d_is_name ["word"] []
  m_is_name : mg "is_name" = some (.ref a.f_is_name)
  F_Pacts___init__ : Fun K "__init__" "Pacts.__init__" s_Pacts___init__ a.f_Pacts___init__ a.d_Pacts___init__
  b_Pacts___init__ : Binds K a.d_Pacts___init__ ["self", "pairs", "helpers"] []
  F_Pacts_fits_pair : Fun K "fits_pair" "Pacts.fits_pair" s_Pacts_fits_pair a.f_Pacts_fits_pair a.d_Pacts_fits_pair
  b_Pacts_fits_pair : Binds K a.d_Pacts_fits_pair ["self", "pair"] []
  mt_Pacts_fits_pair : Meth K a.c_Pacts "fits_pair" a.f_Pacts_fits_pair
  F_Pacts_fits_helper : Fun K "fits_helper" "Pacts.fits_helper" s_Pacts_fits_helper a.f_Pacts_fits_helper a.d_Pacts_fits_helper
  b_Pacts_fits_helper : Binds K a.d_Pacts_fits_helper ["self", "helper"] []
  mt_Pacts_fits_helper : Meth K a.c_Pacts "fits_helper" a.f_Pacts_fits_helper
  F_Pacts_words_called : Fun K "words_called" "Pacts.words_called" s_Pacts_words_called a.f_Pacts_words_called a.d_Pacts_words_called
  b_Pacts_words_called : Binds K a.d_Pacts_words_called ["self", "side"] []
  mt_Pacts_words_called : Meth K a.c_Pacts "words_called" a.f_Pacts_words_called
  F_Pacts_pairs : Fun K "pairs" "Pacts.pairs" s_Pacts_pairs a.f_Pacts_pairs a.d_Pacts_pairs
  b_Pacts_pairs : Binds K a.d_Pacts_pairs ["self"] []
  mt_Pacts_pairs : Meth K a.c_Pacts "pairs" a.f_Pacts_pairs
  F_Pacts_names : Fun K "names" "Pacts.names" s_Pacts_names a.f_Pacts_names a.d_Pacts_names
  b_Pacts_names : Binds K a.d_Pacts_names ["self", "side"] []
  mt_Pacts_names : Meth K a.c_Pacts "names" a.f_Pacts_names
  F_Pacts_pact : Fun K "pact" "Pacts.pact" s_Pacts_pact a.f_Pacts_pact a.d_Pacts_pact
  b_Pacts_pact : Binds K a.d_Pacts_pact ["self", "name"] []
  mt_Pacts_pact : Meth K a.c_Pacts "pact" a.f_Pacts_pact
  F_Pacts___len__ : Fun K "__len__" "Pacts.__len__" s_Pacts___len__ a.f_Pacts___len__ a.d_Pacts___len__
  b_Pacts___len__ : Binds K a.d_Pacts___len__ ["self"] []
  mt_Pacts___len__ : Meth K a.c_Pacts "__len__" a.f_Pacts___len__
  F_Pacts___eq__ : Fun K "__eq__" "Pacts.__eq__" s_Pacts___eq__ a.f_Pacts___eq__ a.d_Pacts___eq__
  b_Pacts___eq__ : Binds K a.d_Pacts___eq__ ["self", "other"] []
  mt_Pacts___eq__ : Meth K a.c_Pacts "__eq__" a.f_Pacts___eq__
  F_Pacts_lines_told : Fun K "lines_told" "Pacts.lines_told" s_Pacts_lines_told a.f_Pacts_lines_told a.d_Pacts_lines_told
  b_Pacts_lines_told : Binds K a.d_Pacts_lines_told ["self"] []
  mt_Pacts_lines_told : Meth K a.c_Pacts "lines_told" a.f_Pacts_lines_told
  F_Pacts___str__ : Fun K "__str__" "Pacts.__str__" s_Pacts___str__ a.f_Pacts___str__ a.d_Pacts___str__
  b_Pacts___str__ : Binds K a.d_Pacts___str__ ["self"] []
  mt_Pacts___str__ : Meth K a.c_Pacts "__str__" a.f_Pacts___str__
  F_pair_line : Fun K "pair_line" "pair_line" s_pair_line a.f_pair_line a.d_pair_line
  b_pair_line : Binds K a.d_pair_line ["pair"] []
  m_pair_line : mg "pair_line" = some (.ref a.f_pair_line)
  F_helper_line : Fun K "helper_line" "helper_line" s_helper_line a.f_helper_line a.d_helper_line
  b_helper_line : Binds K a.d_helper_line ["pact"] []
  m_helper_line : mg "helper_line" = some (.ref a.f_helper_line)
  F_read_pair : Fun K "read_pair" "read_pair" s_read_pair a.f_read_pair a.d_read_pair
  b_read_pair : Binds K a.d_read_pair ["words", "at"] []
  m_read_pair : mg "read_pair" = some (.ref a.f_read_pair)
  F_read_helper : Fun K "read_helper" "read_helper" s_read_helper a.f_read_helper a.d_read_helper
  b_read_helper : Binds K a.d_read_helper ["words", "at"] []
  m_read_helper : mg "read_helper" = some (.ref a.f_read_helper)
  F_read_pacts : Fun K "read_pacts" "read_pacts" s_read_pacts a.f_read_pacts a.d_read_pacts
  b_read_pacts : Binds K a.d_read_pacts ["text"] []
  m_read_pacts : mg "read_pacts" = some (.ref a.f_read_pacts)
  F__law_box : Fun K "_law_box" "_law_box" s__law_box a.f__law_box a.d__law_box
  b__law_box : Binds K a.d__law_box ["_law_script"] []
  m__law_box : mg "_law_box" = some (.ref a.f__law_box)
  F__law_mixed : Fun K "_law_mixed" "_law_mixed" s__law_mixed a.f__law_mixed a.d__law_mixed
  b__law_mixed : Binds K a.d__law_mixed ["_law_cell", "_law_k"] []
  m__law_mixed : mg "_law_mixed" = some (.ref a.f__law_mixed)
  F__law_take : Fun K "_law_take" "_law_take" s__law_take a.f__law_take a.d__law_take
  b__law_take : Binds K a.d__law_take ["_law_box_here", "_law_size"] []
  m__law_take : mg "_law_take" = some (.ref a.f__law_take)
  F__law_name : Fun K "_law_name" "_law_name" s__law_name a.f__law_name a.d__law_name
  b__law_name : Binds K a.d__law_name ["_law_box_here"] []
  m__law_name : mg "_law_name" = some (.ref a.f__law_name)
  F__law_names : Fun K "_law_names" "_law_names" s__law_names a.f__law_names a.d__law_names
  b__law_names : Binds K a.d__law_names ["_law_box_here", "_law_many"] []
  m__law_names : mg "_law_names" = some (.ref a.f__law_names)
  F__law_pairs : Fun K "_law_pairs" "_law_pairs" s__law_pairs a.f__law_pairs a.d__law_pairs
  b__law_pairs : Binds K a.d__law_pairs ["_law_box_here", "_law_most"] []
  m__law_pairs : mg "_law_pairs" = some (.ref a.f__law_pairs)
  F__law_some : Fun K "_law_some" "_law_some" s__law_some a.f__law_some a.d__law_some
  b__law_some : Binds K a.d__law_some ["_law_box_here", "_law_things", "_law_most"] []
  m__law_some : mg "_law_some" = some (.ref a.f__law_some)
  F__law_helpers : Fun K "_law_helpers" "_law_helpers" s__law_helpers a.f__law_helpers a.d__law_helpers
  b__law_helpers : Binds K a.d__law_helpers ["_law_box_here", "_law_pairs_here"] []
  m__law_helpers : mg "_law_helpers" = some (.ref a.f__law_helpers)
  F__law_line : Fun K "_law_line" "_law_line" s__law_line a.f__law_line a.d__law_line
  b__law_line : Binds K a.d__law_line ["_law_helper"] []
  m__law_line : mg "_law_line" = some (.ref a.f__law_line)
  F__law_text : Fun K "_law_text" "_law_text" s__law_text a.f__law_text a.d__law_text
  b__law_text : Binds K a.d__law_text ["_law_pairs_here", "_law_helpers_here"] []
  m__law_text : mg "_law_text" = some (.ref a.f__law_text)
  F__law_pair_read : Fun K "_law_pair_read" "_law_pair_read" s__law_pair_read a.f__law_pair_read a.d__law_pair_read
  b__law_pair_read : Binds K a.d__law_pair_read ["_law_words"] []
  m__law_pair_read : mg "_law_pair_read" = some (.ref a.f__law_pair_read)
  F__law_helper_read : Fun K "_law_helper_read" "_law_helper_read" s__law_helper_read a.f__law_helper_read a.d__law_helper_read
  b__law_helper_read : Binds K a.d__law_helper_read ["_law_words"] []
  m__law_helper_read : mg "_law_helper_read" = some (.ref a.f__law_helper_read)
  F__law_read : Fun K "_law_read" "_law_read" s__law_read a.f__law_read a.d__law_read
  b__law_read : Binds K a.d__law_read ["_law_page"] []
  m__law_read : mg "_law_read" = some (.ref a.f__law_read)
  F__law_is_name : Fun K "_law_is_name" "_law_is_name" s__law_is_name a.f__law_is_name a.d__law_is_name
  b__law_is_name : Binds K a.d__law_is_name ["_law_word"] []
  m__law_is_name : mg "_law_is_name" = some (.ref a.f__law_is_name)
  F__law_pair_fits : Fun K "_law_pair_fits" "_law_pair_fits" s__law_pair_fits a.f__law_pair_fits a.d__law_pair_fits
  b__law_pair_fits : Binds K a.d__law_pair_fits ["_law_ahead", "_law_pair"] []
  m__law_pair_fits : mg "_law_pair_fits" = some (.ref a.f__law_pair_fits)
  F__law_helper_fits : Fun K "_law_helper_fits" "_law_helper_fits" s__law_helper_fits a.f__law_helper_fits a.d__law_helper_fits
  b__law_helper_fits : Binds K a.d__law_helper_fits ["_law_pairs_here", "_law_ahead", "_law_helper"] []
  m__law_helper_fits : mg "_law_helper_fits" = some (.ref a.f__law_helper_fits)
  F__law_first_bad : Fun K "_law_first_bad" "_law_first_bad" s__law_first_bad a.f__law_first_bad a.d__law_first_bad
  b__law_first_bad : Binds K a.d__law_first_bad ["_law_pairs_here", "_law_helpers_here"] []
  m__law_first_bad : mg "_law_first_bad" = some (.ref a.f__law_first_bad)
  F__law_row_changed : Fun K "_law_row_changed" "_law_row_changed" s__law_row_changed a.f__law_row_changed a.d__law_row_changed
  b__law_row_changed : Binds K a.d__law_row_changed ["_law_box_here", "_law_row"] []
  m__law_row_changed : mg "_law_row_changed" = some (.ref a.f__law_row_changed)
  F__law_changed : Fun K "_law_changed" "_law_changed" s__law_changed a.f__law_changed a.d__law_changed
  b__law_changed : Binds K a.d__law_changed ["_law_box_here", "_law_page"] []
  m__law_changed : mg "_law_changed" = some (.ref a.f__law_changed)
  F__law_made : Fun K "_law_made" "_law_made" s__law_made a.f__law_made a.d__law_made
  b__law_made : Binds K a.d__law_made ["_law_page"] []
  m__law_made : mg "_law_made" = some (.ref a.f__law_made)
  F_law : Fun K "law" "law" s_law a.f_law a.d_law
  b_law : Binds K a.d_law ["_law_script"] []
  m_law : mg "law" = some (.ref a.f_law)
  kb_read_pacts_text : KBinds K a.d_read_pacts ["text"] ["text"] (kbGn 0) (kbVn 0)
  g_LETTERS : ∃ t, mg "LETTERS" = some (.str "abcdefghijklmnopqrstuvwxyz" t)
  g_MOST : ∃ t, mg "MOST" = some (.int 8 t)
  g_MOST_PAIRS : ∃ t, mg "MOST_PAIRS" = some (.int 6 t)
  g_MOST_HELPERS : ∃ t, mg "MOST_HELPERS" = some (.int 4 t)
  g_MOST_TAKES : ∃ t, mg "MOST_TAKES" = some (.int 3 t)
  g_MOST_THROWS : ∃ t, mg "MOST_THROWS" = some (.int 4 t)
  g_HOWS : mg "HOWS" = some (.ref a.k_HOWS)
  tp_HOWS : ∀ H, SqT K H a.k_HOWS [.str "lent", .str "given"]
  z_all : mg "all" = none
  z_len : mg "len" = none
  z_enumerate : mg "enumerate" = none
  z_any : mg "any" = none
  z_set : mg "set" = none
  z_list : mg "list" = none
  z_isinstance : mg "isinstance" = none
  z_str : mg "str" = none
  z_int : mg "int" = none
  z_tuple : mg "tuple" = none
  z_range : mg "range" = none
  z_zip : mg "zip" = none
  z_min : mg "min" = none
  z_ValueError : mg "ValueError" = none
/-! ### what all laws share: the box of draws -/
/-- all but the two objects of the box stand as they were -/
def Keep2 (b g : Addr) (H H' : Hp) : Prop := ∀ a o, a ≠ b → a ≠ g → H a = some o → H' a = some o
theorem Keep2.refl (b g : Addr) (H : Hp) : Keep2 b g H H := fun _ _ _ _ h => h
theorem Keep2.trans {b g : Addr} {H H1 H2 : Hp} (x : Keep2 b g H H1) (y : Keep2 b g H1 H2) : Keep2 b g H H2 := fun a o h1 h2 h => y a o h1 h2 (x a o h1 h2 h)
/-- all but one object stand as they were -/
def Keep1 (b : Addr) (H H' : Hp) : Prop := ∀ a o, a ≠ b → H a = some o → H' a = some o
/-- a box at b, its list of great cells at g, of lesser ones at l; n draws were made -/
structure BoxAt (H : Hp) (b g l : Addr) (n : Int) : Prop where
  ex : ∃ (gs ls : List Int) (d : Int), H b = some (.lst [.ref g, .int d, .ref l, .int n]) ∧ H g = some (.lst (gs.map V.int)) ∧ H l = some (.lst (ls.map V.int)) ∧
    0 ≤ d ∧ (∀ z ∈ gs, 0 ≤ z) ∧ gs.length ≤ 63 ∧ ls.length ≤ 63 ∧ b ≠ g ∧ b ≠ l ∧ g ≠ l
  pos : 0 ≤ n
theorem BoxAt.keep {H H' : Hp} {b g l : Addr} {n : Int} (B : BoxAt H b g l n) (k : ∀ a o, H a = some o → a = b ∨ a = g ∨ a = l → H' a = some o) : BoxAt H' b g l n := by
  obtain ⟨gs, ls, d, h1, h2, h3, h⟩ := B.ex
  exact ⟨⟨gs, ls, d, k _ _ h1 (.inl rfl), k _ _ h2 (.inr (.inl rfl)), k _ _ h3 (.inr (.inr rfl)), h⟩, B.pos⟩
theorem BoxAt.same {H H' : Hp} {b g l : Addr} {n : Int} (B : BoxAt H b g l n) (k : ∀ a o, H a = some o → H' a = some o) : BoxAt H' b g l n := B.keep fun a o h _ => k a o h
/-- the three are lists -/
theorem BoxAt.lists {H : Hp} {b g l : Addr} {n : Int} (B : BoxAt H b g l n) : (∃ xs, H b = some (.lst xs)) ∧ (∃ xs, H g = some (.lst xs)) ∧ ∃ xs, H l = some (.lst xs) := by
  obtain ⟨gs, ls, d, h1, h2, h3, _⟩ := B.ex
  exact ⟨⟨_, h1⟩, ⟨_, h2⟩, ⟨_, h3⟩⟩
theorem BoxAt.fresh {H : Hp} {b g l D : Addr} {n : Int} (B : BoxAt H b g l n) (hD : H D = none) : D ≠ b ∧ D ≠ g ∧ D ≠ l := by
  obtain ⟨⟨_, h1⟩, ⟨_, h2⟩, ⟨_, h3⟩⟩ := B.lists
  exact ⟨(ne_of_none h1 hD).symm, (ne_of_none h2 hD).symm, (ne_of_none h3 hD).symm⟩
theorem BoxAt.upd {H : Hp} {b g l D : Addr} {n : Int} {o : HO} (B : BoxAt H b g l n) (h : D ≠ b ∧ D ≠ g ∧ D ≠ l) : BoxAt (upd H D o) b g l n := by
  refine B.keep fun x o e z => ?_
  have hx : x ≠ D := by
    rcases z with z | z | z
    · rw [z]; exact h.1.symm
    · rw [z]; exact h.2.1.symm
    · rw [z]; exact h.2.2.symm
  exact upd_get hx e
/-- _law_mixed: some number -/
def spMixed : Sp := fun vs H Q _ => ∃ (c k : Int), vs = [.int c, .int k] ∧ 0 ≤ k ∧ k ≤ 10000000 ∧ ∀ r : Int, Q (.int r) H
/-- _law_take: a number below the size -/
def spTake : Sp := fun vs H Q _ => ∃ (b g l : Addr) (n sz : Int), vs = [.ref b, .int sz] ∧ BoxAt H b g l n ∧ n ≤ 1000000 ∧ 0 < sz ∧ sz < 2 ^ 200 ∧
  ∀ (r : Int) (H' : Hp), 0 ≤ r → r < sz → BoxAt H' b g l (n + 1) → Keep2 b g H H' → Q (.int r) H'
/-- _law_box: a new box -/
def spBox (K : PySem.W.Frag) : Sp := fun vs H Q _ => ∃ (a : Addr) (ns : List Int), vs = [.ref a] ∧ SqL K H a (ns.map V.int) ∧ ns.length ≤ 63 ∧
  ∀ (b g l : Addr) (H' : Hp), H b = none → H g = none → H l = none → BoxAt H' b g l 0 → Same H H' → Q (.ref b) H'
local macro_rules | `(tactic| walk_at "nz") => `(tactic| (show (_ : Int) ≠ 0; omega))
local macro_rules | `(tactic| walk_at "ne") => `(tactic| first | assumption | (apply Ne.symm; assumption))
local macro_rules | `(tactic| walk_at "hp") => `(tactic| first | assumption | exact upd_same | (refine upd_get ?_ ?_; walk_at "ne"; walk_at "hp"))
local macro_rules | `(tactic| walk_at "sd") => `(tactic| first
  | (with_reducible show (_ : Int) < _; omega)
  | (with_reducible show (_ : Int) ≤ _; omega)
  | (with_reducible show (_ : Nat) < _; omega)
  | (with_reducible show (_ : Nat) ≤ _; omega)
  | rfl
  | assumption
  | exact kV_int _
  | exact kV_str _
  | (show (_ : Int) ≠ 0; omega)
  | exact SqL.of (by walk_at "hp")
  | exact ⟨_, SqL.of (by walk_at "hp")⟩
  | exact ⟨_, SqT.of (by walk_at "hp")⟩
  | exact ⟨_, (by assumption)⟩
  | exact SqT.of (by walk_at "hp")
  | exact Rd.of (by walk_at "hp")
  | exact Or.inl (SqL.of (by walk_at "hp"))
  | exact Or.inr (SqT.of (by walk_at "hp"))
  | exact Or.inr (by assumption)
  | (walk_at "hp")
  | (exact Or.inl ⟨rfl, _, SqL.of (by walk_at "hp")⟩)
  | (exact Or.inl ⟨by omega, by omega⟩)
  | (exact Or.inr ⟨by omega, by omega⟩)
  | (refine ⟨?_, ?_, ?_⟩ <;> omega)
  | omega
  | (exact small_le (by first | omega | (simp only [List.length_cons, List.length_nil]; omega)))
  | (exact small_lt (by first | omega | (simp only [List.length_cons, List.length_nil]; omega)))
  | exact Nat.le_of_ble_eq_true rfl
  | exact ⟨_, rfl⟩
  | decide)
local macro_rules | `(tactic| walk_at "st") => `(tactic| first
  | with_reducible refine sq_seq ?_
  | apply Exists.intro
  | (refine And.intro ?_ ?_; (walk_at "sd")))
local macro_rules | `(tactic| walk_at "go") => `(tactic| repeat (walk_at "st"))
section
variable {P : Program} {w : World} {K : PySem.W.Frag} {mg : Str → Option Value} {base : Heap} {a : Ad}
theorem ok__law_mixed (T : Txt K mg a) : FnOk P w K mg base CX0 1 a.f__law_mixed a.d__law_mixed ["_law_cell", "_law_k"] spMixed := by
  refine T.F__law_mixed.ok sc__law_mixed (fun vs H Q E h => ?_) (fun cdv A outer s H vs Q E hr h => ?_)
  · obtain ⟨c, k, rfl, _⟩ := h
    rfl
  · obtain ⟨c, k, rfl, h0, h1, q⟩ := h
    refine ⟨_, (pss_cons (ps_set (i := 2) sc__law_mixed.nd rfl (Or.inl rfl) (pe_op op_modN (pe_op op_pow (pe_op op_add (pe_op op_add (pe_op op_add (pe_op op_modN (pv 0) pe_int) (pe_op op_mul (pe_op op_mul pe_int (pv 1)) (pv 1))) (pe_op op_mul pe_int (pv 1))) pe_int) pe_int) pe_int))
      (pss_one (ps_ret (pe_op op_modN (pe_op op_add (pe_op op_mul (pv 2) pe_int) (pe_op op_mul pe_int (pv 1))) pe_int)))), ?_⟩
    have m1 := fmod_pos (i := c) (j := 2147483647) (by decide)
    have e1 : 1009 * k ≤ 10090000000 := by omega
    have e2 : 0 ≤ 1009 * k * k := Int.mul_nonneg (by omega) h0
    have e3 : 1009 * k * k ≤ 10090000000 * 10000000 := Int.mul_le_mul e1 h1 h0 (by decide)
    walk_at "go"
    exact q _
theorem ok__law_take (T : Txt K mg a) : FnOk P w K mg base CX0 2 a.f__law_take a.d__law_take ["_law_box_here", "_law_size"] spTake := by
  have G__law_mixed := ok__law_mixed (P := P) (w := w) (base := base) T
  refine T.F__law_take.ok sc__law_take (fun vs H Q E h => ?_) (fun cdv A outer s H vs Q E hr h => ?_)
  · obtain ⟨b, g, l, n, sz, rfl, _⟩ := h
    rfl
  · obtain ⟨b, g, l, n, sz, rfl, B, hn, s0, s1, q⟩ := h
    obtain ⟨gs, ls, d, hb, hg, hl, d0, g0, lg, ll, nbg, nbl, ngl⟩ := B.ex
    have n0 := B.pos
    refine ⟨_, (pss_cons (ps_asg (pe_op op_add (pe_ix ix_list (pv 0) pe_int (fun _ _ => rfl)) pe_int) (pg_sub (pv 0) pe_int set_list))
      (pss_mid (ps_if (PW.pt (pw_and (pt_cmpR op_eq (pe_ix ix_list (pv 0) pe_int (fun _ _ => rfl)) pe_int (nomark _)) (pw_and1 (pt_cmpR op_gt (pe_callB call_lenK (by rfl) T.z_len PySem.boot_len (pa_cons (pe_ix ix_list (pv 0) pe_int (fun _ _ => rfl)) pa_nil)) pe_int (nomark _))))) (pss_one (ps_asg (pe_bm PySem.F.plainAttrs_list PySem.F.slot_list_pop PySem.F.type_list_pop mt_popAt (pe_ix ix_list (pv 0) pe_int (fun _ _ => rfl)) (pa_cons pe_int pa_nil)) (pg_sub (pv 0) pe_int set_list))) pss_nil)
      (pss_cons (ps_if (pt_cmpR op_gt (pe_ix ix_list (pv 0) pe_int (fun _ _ => rfl)) pe_int (nomark _)) (pss_cons (ps_set (i := 2) sc__law_take.nd rfl (Or.inl rfl) (pe_op op_modN (pe_ix ix_list (pv 0) pe_int (fun _ _ => rfl)) (pv 1)))
      (pss_cons (ps_asg (pe_op op_fdivW (pe_ix ix_list (pv 0) pe_int (fun _ _ => rfl)) (pv 1)) (pg_sub (pv 0) pe_int set_list))
      (pss_one (ps_ret (pv 2))))) pss_nil)
      (pss_cons (ps_set (i := 3) sc__law_take.nd rfl (Or.inl rfl) (pe_op op_mul pe_int (pe_ix ix_list (pv 0) pe_int (fun _ _ => rfl))))
      (pss_mid (ps_if (pt_cmpR op_gt (pe_callB call_lenK (by rfl) T.z_len PySem.boot_len (pa_cons (pe_ix ix_list (pv 0) pe_int (fun _ _ => rfl)) pa_nil)) pe_int (nomark _)) (pss_one (ps_set (i := 3) sc__law_take.nd rfl (Or.inl rfl) (pe_ix ix_list (pe_ix ix_list (pv 0) pe_int (fun _ _ => rfl)) (pe_op op_modN (pe_ix ix_list (pv 0) pe_int (fun _ _ => rfl)) (pe_callB call_lenK (by rfl) T.z_len PySem.boot_len (pa_cons (pe_ix ix_list (pv 0) pe_int (fun _ _ => rfl)) pa_nil))) (fun _ _ => rfl)))) pss_nil)
      (pss_cons (ps_set (i := 2) sc__law_take.nd rfl (Or.inl rfl) pe_int)
      (pss_cons (ps_set (i := 4) sc__law_take.nd rfl (Or.inl rfl) pe_int)
      (pss_cons (ps_stop (ps_while PassesOwn.never (pt_cmpR op_lt (pv 4) (pv 1) (nomark _)) (pss_cons (ps_set (i := 2) sc__law_take.nd rfl (Or.inl rfl) (pe_op op_add (pe_op op_mul (pv 2) pe_int) (pe_call G__law_mixed (hr.mono (by decide)) rfl T.m__law_mixed T.F__law_mixed.kp T.b__law_mixed .nil pass0 (pa_cons (pv 3) (pa_cons (pe_op op_add (pe_ix ix_list (pv 0) pe_int (fun _ _ => rfl)) (pe_op op_mul pe_int (pe_op op_modN (pv 2) pe_int))) pa_nil)))))
      (pss_one (ps_set (i := 4) sc__law_take.nd rfl (Or.inl rfl) (pe_op op_mul (pv 4) pe_int))))))
      (pss_one (ps_ret (pe_op op_modN (pv 2) (pv 1)))))))))))), ?_⟩
    walk_at "go"
    -- if box[1] == 0 and len(box[0]) > 0
    refine mid_of (fun σ H1 => ∃ (gs1 : List Int) (d1 : Int), σ = [some (.ref b), some (.int sz), none, none, none] ∧ H1 b = some (.lst [.ref g, .int d1, .ref l, .int (n + 1)]) ∧ H1 g = some (.lst (gs1.map V.int)) ∧ H1 l = some (.lst (ls.map V.int)) ∧
      0 ≤ d1 ∧ (∀ z ∈ gs1, 0 ≤ z) ∧ gs1.length ≤ 63 ∧ Keep2 b g H H1) ?_ ?_
    · have k1 : Keep2 b g H (upd H b (.lst [.ref g, .int d, .ref l, .int (n + 1)])) := fun x o n1 n2 e => by rw [upd_ne n1]; exact e
      walk_at "go"
      refine ifD (fun e => ?_) (fun _ => ?_)
      · walk_at "go"
        refine ifD (fun e2 => ?_) (fun _ => ?_)
        · cases gs with
          | nil => exact absurd e2 (by decide)
          | cons z r =>
            walk_at "go"
            refine ⟨(seqIndex_of (by decide) e2 : seqIndex? 0 _ = some 0), rfl, ?_⟩
            walk_at "go"
            refine wait ⟨r, z, rfl, upd_same, upd_get nbg.symm upd_same, upd_get nbl.symm (upd_get ngl.symm (upd_get nbl.symm hl)), g0 _ List.mem_cons_self, fun y hy => g0 y (List.mem_cons_of_mem _ hy), ?_, ?_⟩
            · rw [List.length_cons] at lg
              omega
            · intro x o n1 n2 e
              rw [upd_ne n1, upd_ne n2, upd_ne n1]
              exact e
        · exact wait ⟨gs, d, rfl, upd_same, upd_get nbg.symm hg, upd_get nbl.symm hl, d0, g0, lg, k1⟩
      · refine ifF rfl ?_
        exact wait ⟨gs, d, rfl, upd_same, upd_get nbg.symm hg, upd_get nbl.symm hl, d0, g0, lg, k1⟩
    · rintro σ H1 ⟨gs1, d1, rfl, hb1, hg1, hl1, d10, g10, lg1, k1⟩
      walk_at "go"
      refine ifD (fun e => ?_) (fun e => ?_)
      · have m := fmod_pos (i := d1) (j := sz) s0
        have hd : CDivW d1 sz := wide_div (b := 200) s0 (by omega) (by decide) (by decide)
        walk_at "go"
        refine q _ _ m.1 m.2 ⟨⟨gs1, ls, d1 / sz, upd_same, upd_get nbg.symm hg1, upd_get nbl.symm hl1, Int.ediv_nonneg d10 (by omega), g10, lg1, ll, nbg, nbl, ngl⟩, by omega⟩ ?_
        intro x o n1 n2 e
        rw [upd_ne n1]
        exact k1 x o n1 n2 e
      · walk_at "go"
        refine mid_of (fun σ H2 => H2 = H1 ∧ ∃ c : Int, σ = [some (.ref b), some (.int sz), none, some (.int c), none]) ?_ ?_
        · walk_at "go"
          refine ifD (fun e2 => ?_) (fun _ => ?_)
          · have e3 : (0 : Int) < (ls.length : Int) := by rw [List.length_map] at e2; exact e2
            have m := fmod_pos (i := n + 1) (j := (ls.length : Int)) e3
            obtain ⟨z, hz, _⟩ := atI_ints m.1 m.2
            have hz2 : atI (ls.map V.int) ((n + 1).fmod ((ls.map V.int).length : Int)) = some (.int z) := by rw [List.length_map]; exact hz
            walk_at "go"
            exact wait ⟨rfl, _, rfl⟩
          · exact wait ⟨rfl, _, rfl⟩
        · rintro σ H2 ⟨rfl, c, rfl⟩
          walk_at "go"
          refine while_W (fun m σ H3 => H3 = H2 ∧ ∃ f r : Int, σ = [some (.ref b), some (.int sz), some (.int f), some (.int c), some (.int r)] ∧ 0 < r ∧ m = (sz - r).toNat) (sz - 1).toNat ?_ ?_
          · exact ⟨rfl, 0, 1, rfl, by decide, rfl⟩
          · rintro m σ H3 ⟨rfl, f, r, rfl, r0, rfl⟩
            walk_at "go"
            refine ifD (fun e2 => ?_) (fun _ => ?_)
            · have m := fmod_pos (i := f) (j := 89) (by decide)
              refine next_W ?_
              walk_at "go"
              intro x
              walk_at "go"
              exact wait ⟨_, (show (sz - r * 1000000007).toNat < (sz - r).toNat by omega), rfl, _, _, rfl, by omega, rfl⟩
            · have m := fmod_pos (i := f) (j := sz) s0
              walk_at "go"
              exact q _ _ m.1 m.2 ⟨⟨gs1, ls, d1, hb1, hg1, hl1, d10, g10, lg1, ll, nbg, nbl, ngl⟩, by omega⟩ k1
theorem ok__law_box (T : Txt K mg a) : FnOk P w K mg base CX0 1 a.f__law_box a.d__law_box ["_law_script"] (spBox K) := by
  refine T.F__law_box.ok sc__law_box (fun vs H Q E h => ?_) (fun cdv A outer s H vs Q E hr h => ?_)
  · obtain ⟨c, ns, rfl, _⟩ := h
    rfl
  · obtain ⟨c, ns, rfl, hS, hl, q⟩ := h
    refine ⟨_, (pss_cons (ps_setLc (i := 1) (own := [("_law_cell", 2)]) (g := gName 2) rfl sc__law_box.nd rfl rfl (sw_true rfl rfl rfl (by decide +kernel)) (pi_list (pv 0)) (blkOk_by (own := [("_law_cell", 2)]) (N := n__law_box) (sc := defScope s__law_box) (by decide +kernel)) (fun _ _ _ _ _ => (pg_name (i := 2) sc__law_box.nd rfl (Or.inl rfl))) (fun _ _ _ _ _ => (pts_one (pt_cmpR op_ge (pv 2) (pe_op op_pow pe_int pe_int) (nomark _)))) (fun _ _ _ _ _ => (pv 2)))
      (pss_one (ps_ret (pe_lst (pa_cons (pv 1) (pa_cons pe_int (pa_cons (pe_lc (own := [("_law_cell", 2)]) (g := gName 2) rfl sc__law_box.nd (pi_list (pv 0)) (blkOk_by (own := [("_law_cell", 2)]) (N := n__law_box) (sc := defScope s__law_box) (by decide +kernel)) (fun _ _ _ _ _ => (pg_name (i := 2) sc__law_box.nd rfl (Or.inl rfl))) (fun _ _ _ _ _ => (pts_one (pt_cmpR op_lt (pv 2) (pe_op op_pow pe_int pe_int) (nomark _)))) (fun _ _ _ _ _ => (pv 2))) (pa_cons pe_int pa_nil)))))))), ?_⟩
    walk_at "go"
    intro D hD
    refine lcL (K := K) (a := c) (xs := ns.map V.int) (fun i H' => H' D = some (.lst (((ns.take i).filter fun z => decide ((10 : Int) ^ 18 ≤ z)).map V.int)) ∧ Same H H') ?_ ?_ ?_ ?_
    · exact ⟨upd_same, fun x o e => by rw [upd_ne (ne_of_none e hD)]; exact e⟩
    · exact fun i H' _ h => h.2.seq hS
    · rintro i y H' hi ⟨h1, h2⟩
      obtain ⟨u, rfl, hu, _⟩ := ints_at hi
      have hlen := filt_len (fun z => decide ((10 : Int) ^ 18 ≤ z)) ns i
      refine ⟨rfl, ?_⟩
      walk_at "go"
      refine ifD (fun p => ?_) (fun p => ?_)
      · walk_at "go"
        refine ⟨small_lt (by rw [List.length_map]; omega), wait ⟨?_, fun x o e => ?_⟩⟩
        · rw [upd_same, take_filt_yes hu (decide_eq_true p), List.map_append] <;> rfl
        · rw [upd_ne (ne_of_none e hD)]
          exact h2 x o e
      · refine wait ⟨?_, h2⟩
        rw [take_filt_no hu (decide_eq_false p)]
        exact h1
    · rintro H1 ⟨h1, s1⟩
      rw [List.length_map, List.take_length] at h1
      have hS1 := s1.seq hS
      walk_at "go"
      intro L hL
      refine lcL (K := K) (a := c) (xs := ns.map V.int) (fun i H' => H' L = some (.lst (((ns.take i).filter fun z => decide (z < (10 : Int) ^ 18)).map V.int)) ∧ Same H1 H') ?_ ?_ ?_ ?_
      · exact ⟨upd_same, fun x o e => by rw [upd_ne (ne_of_none e hL)]; exact e⟩
      · exact fun i H' _ h => h.2.seq hS1
      · rintro i y H' hi ⟨g1, g2⟩
        obtain ⟨u, rfl, hu, _⟩ := ints_at hi
        have hlen := filt_len (fun z => decide (z < (10 : Int) ^ 18)) ns i
        refine ⟨rfl, ?_⟩
        walk_at "go"
        refine ifD (fun p => ?_) (fun p => ?_)
        · walk_at "go"
          refine ⟨small_lt (by rw [List.length_map]; omega), wait ⟨?_, fun x o e => ?_⟩⟩
          · rw [upd_same, take_filt_yes hu (decide_eq_true p), List.map_append] <;> rfl
          · rw [upd_ne (ne_of_none e hL)]
            exact g2 x o e
        · refine wait ⟨?_, g2⟩
          rw [take_filt_no hu (decide_eq_false p)]
          exact g1
      · rintro H2 ⟨g1, s2⟩
        rw [List.length_map, List.take_length] at g1
        refine ⟨(by show 4 ≤ sizeLine; decide), fun b hb => ?_⟩
        have hD2 := s2 _ _ h1
        have nbD : b ≠ D := fun z => by rw [z, hD2] at hb; cases hb
        have nbL : b ≠ L := fun z => by rw [z, g1] at hb; cases hb
        have nDL : D ≠ L := ne_of_none h1 hL
        have s12 : Same H (upd H2 b (.lst [.ref D, .int 0, .ref L, .int 0])) := fun x o e => by
          have e2 := s2 _ _ (s1 _ _ e)
          rw [upd_ne (ne_of_none e2 hb)]
          exact e2
        refine q b D L _ ((s1.trans s2).free hb) hD (s1.free hL) ⟨⟨_, _, 0, upd_same, upd_get nbD.symm hD2, upd_get nbL.symm g1, by decide, fun z hz => ?_, ?_, ?_, nbD, nbL, nDL⟩, by decide⟩ s12
        · have := (List.mem_filter.mp hz).2
          have p : (10 : Int) ^ 18 ≤ z := of_decide_eq_true this
          omega
        · exact Nat.le_trans (List.length_filter_le _ _) hl
        · exact Nat.le_trans (List.length_filter_le _ _) hl
/-! ### names -/
structure IsName (w : Str) : Prop where
  lo : 1 ≤ w.length
  hi : w.length ≤ 8
  cs : ∀ c ∈ w.cps.toList, 97 ≤ c ∧ c ≤ 122
theorem abc_cps : (Str.ofString "abcdefghijklmnopqrstuvwxyz").cps.toList = (List.range 26).map (97 + ·) := by decide +kernel
theorem abc_at {r : Int} (h0 : 0 ≤ r) (h1 : r < 26) : ∃ c, atI (Str.ofString "abcdefghijklmnopqrstuvwxyz").cps.toList r = some c ∧ 97 ≤ c ∧ c ≤ 122 := by
  obtain ⟨v, e1, e2⟩ := atI_in (xs := (Str.ofString "abcdefghijklmnopqrstuvwxyz").cps.toList) (i := r) h0 (by rw [abc_cps]; exact h1)
  refine ⟨v, e1, ?_⟩
  have := List.mem_of_getElem? e2
  rw [abc_cps] at this
  obtain ⟨k, hk, rfl⟩ := List.mem_map.mp this
  have := List.mem_range.mp hk
  omega
theorem abc_len : (Str.ofString "abcdefghijklmnopqrstuvwxyz").length ≤ sizeLine := by decide +kernel
theorem joinL_one : ∀ cs : List Nat, TL.joinL [] (cs.map fun c => [c]) = cs
  | [] => rfl
  | [_] => rfl
  | c :: d :: r => by
    show [c] ++ ([] ++ TL.joinL [] ((d :: r).map fun c => [c])) = _
    rw [joinL_one (d :: r)] <;> rfl
theorem joined_one (cs : List Nat) : (Txt.join (Str.ofString "") (cs.map fun c => (⟨#[c]⟩ : Str))).cps.toList = cs := by
  rw [TL.join_eq]
  have := TL.tl_join (Str.ofString "") (cs.map fun c => (⟨#[c]⟩ : Str))
  rw [List.map_map] at this
  refine Eq.trans (Eq.trans this ?_) (joinL_one cs)
  rfl
def spName : Sp := fun vs H Q _ => ∃ (b g l : Addr) (n : Int), vs = [.ref b] ∧ BoxAt H b g l n ∧ n ≤ 900000 ∧
  ∀ (w : Str) (n' : Int) (H' : Hp), IsName w → BoxAt H' b g l n' → n' ≤ n + 10 → Keep2 b g H H' → Q (.str w) H'
theorem ok__law_name (T : Txt K mg a) : FnOk P w K mg base CX0 3 a.f__law_name a.d__law_name ["_law_box_here"] spName := by
  have G__law_take := ok__law_take (P := P) (w := w) (base := base) T
  refine T.F__law_name.ok sc__law_name (fun vs H Q E h => ?_) (fun cdv A outer s H vs Q E hr h => ?_)
  · obtain ⟨b, g, l, n, rfl, _⟩ := h
    rfl
  · obtain ⟨b, g, l, n, rfl, B, hn, q⟩ := h
    refine ⟨_, (pss_cons (ps_set (i := 1) sc__law_name.nd rfl (Or.inl rfl) (pe_op op_add pe_int (pe_call G__law_take (hr.mono (by decide)) rfl T.m__law_take T.F__law_take.kp T.b__law_take .nil pass0 (pa_cons (pv 0) (pa_cons (pe_ix ix_list (pe_lst (pa_cons pe_int (pa_cons pe_int (pa_cons pe_int pa_nil)))) (pe_call G__law_take (hr.mono (by decide)) rfl T.m__law_take T.F__law_take.kp T.b__law_take .nil pass0 (pa_cons (pv 0) (pa_cons pe_int pa_nil))) (fun _ _ => rfl)) pa_nil)))))
      (pss_one (ps_ret (pe_join pe_str (pe_lc (own := [("_law_k", 2)]) (g := gName 2) (tt := tYes) rfl sc__law_name.nd (pi_range1 rfl T.z_range (pa_cons (pv 1) pa_nil)) (blkOk_by (own := [("_law_k", 2)]) (N := n__law_name) (sc := defScope s__law_name) (by decide +kernel)) (fun _ _ _ _ _ => (pg_name (i := 2) sc__law_name.nd rfl (Or.inl rfl))) (fun _ _ _ _ _ => pts_nil) (fun _ _ _ _ _ => (pe_ix ix_str pe_str (pe_call G__law_take (hr.mono (by decide)) rfl T.m__law_take T.F__law_take.kp T.b__law_take .nil pass0 (pa_cons (pv 0) (pa_cons pe_int pa_nil))) (fun _ _ => rfl)))))))), ?_⟩
    walk_at "go"
    intro p1 hp1
    have s1 : Same H (upd H p1 (.lst [.int 1, .int 2, .int 8])) := Same.upd_new hp1
    have B1 := B.same s1
    obtain ⟨⟨xb, hb⟩, ⟨xg, hg⟩, _⟩ := B.lists
    refine ⟨_, rfl, b, g, l, n, 3, rfl, B1, by omega, by decide, by decide, fun r1 H2 r10 r11 B2 k2 => ?_⟩
    have hp2 := k2 _ _ (ne_of_none hb hp1).symm (ne_of_none hg hp1).symm upd_same
    obtain ⟨v, e1, e2⟩ := atI_in (xs := [V.int 1, .int 2, .int 8]) (i := r1) r10 r11
    have hm := List.mem_of_getElem? e2
    obtain ⟨sz, rfl, z0, z1⟩ : ∃ sz : Int, v = .int sz ∧ 0 < sz ∧ sz ≤ 8 := by
      simp only [List.mem_cons, List.not_mem_nil, or_false] at hm
      rcases hm with rfl | rfl | rfl
      · exact ⟨_, rfl, by decide, by decide⟩
      · exact ⟨_, rfl, by decide, by decide⟩
      · exact ⟨_, rfl, by decide, by decide⟩
    walk_at "go"
    intro r2 H3 r20 r21 B3 k3
    walk_at "go"
    intro D hD
    refine lcR (lo := 0) (n := (1 + r2).toNat) (fun i H' => ∃ cs : List Nat, cs.length = i ∧ (∀ c ∈ cs, 97 ≤ c ∧ c ≤ 122) ∧ H' D = some (.lst (cs.map fun c => V.str ⟨#[c]⟩)) ∧ BoxAt H' b g l (n + 1 + 1 + i) ∧ (∀ x o, x ≠ b → x ≠ g → x ≠ D → H3 x = some o → H' x = some o)) ?_ ?_ ?_
    · refine ⟨[], rfl, (fun _ h => nomatch h), upd_same, ?_, fun x o _ _ h3 e => upd_get h3 e⟩
      have := B3.same (Same.upd_new (o := .lst []) hD)
      rw [show n + 1 + 1 + ((0 : Nat) : Int) = n + 1 + 1 by omega]
      exact this
    · rintro i H' hi ⟨cs, hl, hc, h1, B', k'⟩
      have nD := B3.fresh hD
      have al := abc_len
      refine ⟨rfl, ?_⟩
      walk_at "go"
      intro r4 H4 r40 r41 B4 k4
      obtain ⟨c, e4, c0, c1⟩ := abc_at r40 r41
      have h4 := k4 _ _ nD.1 nD.2.1 h1
      walk_at "go"
      refine ⟨small_lt (by rw [List.length_map]; omega), wait ⟨cs ++ [c], by rw [List.length_append, hl] <;> rfl, fun d hd => ?_, ?_, ?_, fun x o n1 n2 n3 e => upd_get n3 (k4 x o n1 n2 (k' x o n1 n2 n3 e))⟩⟩
      · rcases List.mem_append.mp hd with z | z
        · exact hc d z
        · rw [List.mem_singleton.mp z]; exact ⟨c0, c1⟩
      · rw [upd_same, List.map_append] <;> rfl
      · rw [show n + 1 + 1 + ((i + 1 : Nat) : Int) = n + 1 + 1 + (i : Int) + 1 by omega]
        exact B4.upd nD
    · rintro H' ⟨cs, hl, hc, h1, B', k'⟩
      have nD := B3.fresh hD
      have hlen : cs.length ≤ 8 := by omega
      have hsum : ((cs.map fun c => (⟨#[c]⟩ : Str)).map (·.length)).sum + (cs.map fun c => (⟨#[c]⟩ : Str)).length * (Str.ofString "").length ≤ 16777216 := by
        rw [List.map_map, show ((·.length) ∘ fun c => (⟨#[c]⟩ : Str)) = fun _ => 1 from rfl, List.map_const', List.sum_replicate_nat, List.length_map]
        show cs.length * 1 + cs.length * 0 ≤ _
        omega
      refine ⟨_, D, cs.map fun c => (⟨#[c]⟩ : Str), rfl, rfl, .inl (SqL.of ?_), hsum, ?_⟩
      · rw [List.map_map]; exact h1
      · refine q _ _ _ ⟨?_, ?_, ?_⟩ B' (by omega) ?_
        · rw [TL.len_tl, TL.tl, joined_one]; omega
        · rw [TL.len_tl, TL.tl, joined_one]; omega
        · rw [joined_one]; exact hc
        · intro x o n1 n2 e
          have e3 := k3 x o n1 n2 (k2 x o n1 n2 (s1 x o e))
          exact k' x o n1 n2 (ne_of_none e3 hD) e3
end
end Pf
set_option Elab.async false
set_option linter.all false
set_option maxRecDepth 100000
set_option maxHeartbeats 4000000
namespace Pf
open PySem L2
local macro_rules | `(tactic| walk_at "nz") => `(tactic| (show (_ : Int) ≠ 0; omega))
local macro_rules | `(tactic| walk_at "ne") => `(tactic| first | assumption | (apply Ne.symm; assumption))
local macro_rules | `(tactic| walk_at "hp") => `(tactic| first | assumption | exact upd_same | (refine upd_get ?_ ?_; walk_at "ne"; walk_at "hp"))
local macro_rules | `(tactic| walk_at "sd") => `(tactic| first
  | (with_reducible show (_ : Int) < _; omega)
  | (with_reducible show (_ : Int) ≤ _; omega)
  | (with_reducible show (_ : Nat) < _; omega)
  | (with_reducible show (_ : Nat) ≤ _; omega)
  | rfl
  | assumption
  | exact kV_int _
  | exact kV_str _
  | (show (_ : Int) ≠ 0; omega)
  | exact SqL.of (by walk_at "hp")
  | exact ⟨_, SqL.of (by walk_at "hp")⟩
  | exact ⟨_, SqT.of (by walk_at "hp")⟩
  | exact ⟨_, (by assumption)⟩
  | exact SqT.of (by walk_at "hp")
  | exact Rd.of (by walk_at "hp")
  | exact Or.inl (SqL.of (by walk_at "hp"))
  | exact Or.inr (SqT.of (by walk_at "hp"))
  | exact Or.inr (by assumption)
  | (walk_at "hp")
  | (exact Or.inl ⟨rfl, _, SqL.of (by walk_at "hp")⟩)
  | (exact Or.inl ⟨by omega, by omega⟩)
  | (exact Or.inr ⟨by omega, by omega⟩)
  | (refine ⟨?_, ?_, ?_⟩ <;> omega)
  | omega
  | (exact small_le (by first | omega | (simp only [List.length_cons, List.length_nil]; omega)))
  | (exact small_lt (by first | omega | (simp only [List.length_cons, List.length_nil]; omega)))
  | exact Nat.le_of_ble_eq_true rfl
  | exact ⟨_, rfl⟩
  | decide)
local macro_rules | `(tactic| walk_at "st") => `(tactic| first
  | with_reducible refine sq_seq ?_
  | apply Exists.intro
  | (refine And.intro ?_ ?_; (walk_at "sd")))
local macro_rules | `(tactic| walk_at "go") => `(tactic| repeat (walk_at "st"))
section
variable {P : Program} {w : World} {K : PySem.W.Frag} {mg : Str → Option Value} {base : Heap} {a : Ad}
theorem nodup_sub_len {α : Type} [DecidableEq α] : ∀ {l m : List α}, l.Nodup → (∀ x ∈ l, x ∈ m) → l.length ≤ m.length
  | [], _, _, _ => Nat.zero_le _
  | a :: r, m, hn, hs => by
    rw [List.nodup_cons] at hn
    have ha := hs a List.mem_cons_self
    have h1 := nodup_sub_len (l := r) (m := m.erase a) hn.2 fun x hx => by
      have hne : x ≠ a := fun z => hn.1 (z ▸ hx)
      exact (List.mem_erase_of_ne hne).mpr (hs x (List.mem_cons_of_mem _ hx))
    rw [List.length_erase_of_mem ha] at h1
    have := List.length_pos_of_mem ha
    rw [List.length_cons]
    omega
theorem flat_strs1 (ys : List Str) : (ys.map V.str).all flatV = true := by
  rw [List.all_map]
  exact List.all_eq_true.mpr fun _ _ => rfl
theorem nodup_snoc {α : Type} {l : List α} {x : α} (h : l.Nodup) (hx : x ∉ l) : (l ++ [x]).Nodup := by
  rw [List.nodup_append]
  refine ⟨h, List.nodup_cons.mpr ⟨(fun z => nomatch z), List.nodup_nil⟩, fun y hy z hz => ?_⟩
  rw [List.mem_singleton.mp hz]
  exact fun e => hx (e ▸ hy)
theorem in_strs (x : Str) (ws : List Str) : inV (.str x) (ws.map V.str) = decide (x ∈ ws) := by
  unfold inV
  rw [List.any_map]
  induction ws with
  | nil => rfl
  | cons y r ih =>
    rw [List.any_cons, ih]
    show ((y == x) || _) = _
    by_cases h : y = x
    · subst h; simp
    · have h2 : ¬ x = y := fun z => h z.symm
      simp [h, h2]
theorem name_app {u : Str} {c : Nat} (h : IsName u) (h1 : 97 ≤ c) (h2 : c ≤ 122) : IsName (cutS u none (some 7) ++ (⟨#[c]⟩ : Str)) := by
  have e : TL.tl (cutS u none (some 7) ++ (⟨#[c]⟩ : Str)) = (TL.tl u).take (min 7 u.length) ++ [c] := by
    rw [TL.tl_append]
    rfl
  have hl := TL.len_tl (cutS u none (some 7) ++ (⟨#[c]⟩ : Str))
  rw [e, List.length_append, List.length_take] at hl
  have h8 := h.hi
  have hu := TL.len_tl u
  refine ⟨by rw [hl]; exact Nat.le_add_left _ _, ?_, fun d hd => ?_⟩
  · rw [hl]
    show _ + 1 ≤ 8
    omega
  · have hd2 : d ∈ (TL.tl u).take (min 7 u.length) ++ [c] := by rw [← e]; exact hd
    rcases List.mem_append.mp hd2 with z | z
    · exact h.cs d (List.mem_of_mem_take z)
    · rw [List.mem_singleton.mp z]; exact ⟨h1, h2⟩
abbrev spares : List Str := ["q", "qa", "qb", "qc", "qd", "qe", "qf", "qg", "qh", "qi", "qj", "qk", "ql", "qm", "qn", "qo"]
theorem spares_nd : spares.Nodup := by decide +kernel
theorem isName_dec {w : Str} (h : (decide (1 ≤ w.length) && decide (w.length ≤ 8) && w.cps.toList.all fun c => decide (97 ≤ c) && decide (c ≤ 122)) = true) : IsName w := by
  rw [Bool.and_eq_true, Bool.and_eq_true, List.all_eq_true] at h
  refine ⟨of_decide_eq_true h.1.1, of_decide_eq_true h.1.2, fun c hc => ?_⟩
  have := h.2 c hc
  rw [Bool.and_eq_true] at this
  exact ⟨of_decide_eq_true this.1, of_decide_eq_true this.2⟩
theorem spares_ok : ∀ w ∈ spares, IsName w := by
  have h : (spares.all fun w => (decide (1 ≤ w.length) && decide (w.length ≤ 8) && w.cps.toList.all fun c => decide (97 ≤ c) && decide (c ≤ 122))) = true := by decide +kernel
  intro w hw
  exact isName_dec (List.all_eq_true.mp h w hw)
def spNames : Sp := fun vs H Q _ => ∃ (b g l : Addr) (n m : Int), vs = [.ref b, .int m] ∧ BoxAt H b g l n ∧ n ≤ 800000 ∧ 0 ≤ m ∧ m ≤ 16 ∧
  ∀ (D : Addr) (ws : List Str) (n' : Int) (H' : Hp), (ws.length : Int) = m → ws.Nodup → (∀ w ∈ ws, IsName w) → H D = none → H' D = some (.lst (ws.map V.str)) → BoxAt H' b g l n' → n' ≤ n + 12 * m → Keep2 b g H H' → Q (.ref D) H'
theorem ok__law_names (T : Txt K mg a) : FnOk P w K mg base CX0 4 a.f__law_names a.d__law_names ["_law_box_here", "_law_many"] spNames := by
  have G__law_take := ok__law_take (P := P) (w := w) (base := base) T
  have G__law_name := ok__law_name (P := P) (w := w) (base := base) T
  refine T.F__law_names.ok sc__law_names (fun vs H Q E h => ?_) (fun cdv A outer s H vs Q E hr h => ?_)
  · obtain ⟨b, g, l, n, m, rfl, _⟩ := h
    rfl
  · obtain ⟨b, g, l, n, m, rfl, B, hn, m0, m1, q⟩ := h
    refine ⟨_, (pss_cons (ps_set (i := 2) sc__law_names.nd rfl (Or.inl rfl) (pe_lst pa_nil))
      (pss_cons (ps_stop (ps_for PassesOwn.never rfl (pi_wait (pi_range1 rfl T.z_range (pa_cons (pv 1) pa_nil))) (pg_name (i := 3) sc__law_names.nd rfl (Or.inl rfl)) (pss_cons (ps_set (i := 4) sc__law_names.nd rfl (Or.inl rfl) (pe_call G__law_name (hr.mono (by decide)) rfl T.m__law_name T.F__law_name.kp T.b__law_name .nil pass0 (pa_cons (pv 0) pa_nil)))
      (pss_mid (ps_if (PW.pt (pw_and (pt_cmpR op_gt (pe_callB call_lenK (by rfl) T.z_len PySem.boot_len (pa_cons (pv 2) pa_nil)) pe_int (nomark _)) (pw_and1 (pt_cmpR op_eq (pe_call G__law_take (hr.mono (by decide)) rfl T.m__law_take T.F__law_take.kp T.b__law_take .nil pass0 (pa_cons (pv 0) (pa_cons pe_int pa_nil))) pe_int (nomark _))))) (pss_one (ps_set (i := 4) sc__law_names.nd rfl (Or.inl rfl) (pe_op op_add_str (pe_slice sl_str (pe_ix ix_list (pv 2) (pe_un un_neg pe_int) (fun _ _ => rfl)) po_none (po_some pe_int)) (pe_ix ix_str pe_str (pe_call G__law_take (hr.mono (by decide)) rfl T.m__law_take T.F__law_take.kp T.b__law_take .nil pass0 (pa_cons (pv 0) (pa_cons pe_int pa_nil))) (fun _ _ => rfl))))) pss_nil)
      (pss_cons (ps_stop (ps_for PassesOwn.never rfl (pi_wait (pi_list (by exact (pe_lst (pa_cons pe_str (pa_cons pe_str (pa_cons pe_str (pa_cons pe_str (pa_cons pe_str (pa_cons pe_str (pa_cons pe_str (pa_cons pe_str (pa_cons pe_str (pa_cons pe_str (pa_cons pe_str (pa_cons pe_str (pa_cons pe_str (pa_cons pe_str (pa_cons pe_str (pa_cons pe_str pa_nil)))))))))))))))))))) (pg_name (i := 5) sc__law_names.nd rfl (Or.inl rfl)) (pss_one (ps_if (pt_cmpR op_in_seq (pv 4) (pv 2) (by rfl)) (pss_one (ps_set (i := 4) sc__law_names.nd rfl (Or.inl rfl) (pv 5))) pss_nil))))
      (pss_one (ps_expr (pe_bm PySem.F.plainAttrs_list PySem.F.slot_list_append PySem.F.type_list_append mt_append (pv 2) (pa_cons (pv 4) pa_nil)))))))))
      (pss_one (ps_ret (pv 2))))), ?_⟩
    refine ⟨Nat.zero_le _, fun D hD => ?_⟩
    have nD := B.fresh hD
    refine stop_in ⟨_, rfl, m, rfl, by omega, by omega, ?_⟩
    refine wait ?_
    refine forR (lo := 0) (n := m.toNat) (fun i σ H' => ∃ (u3 u4 u5 : Option V) (ws : List Str) (n' : Int), σ = [some (.ref b), some (.int m), some (.ref D), u3, u4, u5] ∧ ws.length = i ∧ ws.Nodup ∧ (∀ w ∈ ws, IsName w) ∧ H' D = some (.lst (ws.map V.str)) ∧
      BoxAt H' b g l n' ∧ n' ≤ n + 12 * i ∧ (∀ x o, x ≠ b → x ≠ g → x ≠ D → H x = some o → H' x = some o)) ?_ ?_ ?_
    · exact ⟨_, _, _, [], n, rfl, rfl, .nil, (fun _ h => nomatch h), upd_same, B.upd nD, by omega, fun x o _ _ h3 e => upd_get h3 e⟩
    · rintro i σ H1 hi ⟨u3, u4, u5, ws, n1, rfl, hl, hd, hw, h1, B1, hn1, k1⟩
      walk_at "go"
      intro w2 n2 H2 hw2 B2 hn2 k2
      have h2 := k2 _ _ nD.1 nD.2.1 h1
      refine mid_of (fun σ H3 => ∃ (w3 : Str) (n3 : Int), σ = [some (.ref b), some (.int m), some (.ref D), some (.int (0 + i)), some (.str w3), u5] ∧ IsName w3 ∧ BoxAt H3 b g l n3 ∧ n3 ≤ n2 + 2 ∧ Keep2 b g H2 H3) ?_ ?_
      · walk_at "go"
        refine ifD (fun e => ?_) (fun _ => ?_)
        · walk_at "go"
          intro r3 H3 r30 r31 B3 k3
          have h3 := k3 _ _ nD.1 nD.2.1 h2
          walk_at "go"
          refine ifD (fun _ => ?_) (fun _ => ?_)
          · have e2 : 0 < ws.length := by rw [List.length_map] at e; omega
            obtain ⟨u, hu⟩ : ∃ u, ws[ws.length - 1]? = some u := ⟨_, List.getElem?_eq_getElem (by omega)⟩
            have hix : atI (ws.map V.str) (-1) = some (.str u) := by
              unfold atI ixN
              rw [List.length_map, if_neg (by decide), if_pos (by omega), Option.bind_some, List.getElem?_map, show ((-1 : Int) + (ws.length : Int)).toNat = ws.length - 1 by omega, hu] <;> rfl
            have hun := hw u (List.mem_of_getElem? hu)
            have hul : u.length ≤ sizeLine := small_le (by have := hun.hi; omega)
            have al := abc_len
            walk_at "go"
            intro r4 H4 r40 r41 B4 k4
            obtain ⟨c, e4, c0, c1⟩ := abc_at r40 r41
            have hnn := name_app hun c0 c1
            have hln : (cutS u none (some 7)).length + (⟨#[c]⟩ : Str).length ≤ sizeLine := small_le (by
              have := cutS_length u none (some 7)
              have := hun.hi
              show _ + 1 ≤ _
              omega)
            walk_at "go"
            exact wait ⟨_, _, rfl, hnn, B4, by omega, k3.trans k4⟩
          · exact wait ⟨_, _, rfl, hw2, B3, by omega, k3⟩
        · refine ifF rfl ?_
          exact wait ⟨_, _, rfl, hw2, B2, by omega, Keep2.refl _ _ _⟩
      · rintro σ H3 ⟨w3, n3, rfl, hw3, B3, hn3, k3⟩
        have h3 := k3 _ _ nD.1 nD.2.1 h2
        refine sq_seq (stop_in ⟨by decide, fun L hL => ⟨L, rfl, ⟨_, SqL.of upd_same⟩, ?_⟩⟩)
        have nLD : D ≠ L := ne_of_none h3 hL
        refine wait ?_
        refine forL (K := K) (a := L) (xs := spares.map V.str) (fun j σ H4 => H4 = upd H3 L (.lst (spares.map V.str)) ∧ ∃ (w4 : Str) (u5 : Option V), σ = [some (.ref b), some (.int m), some (.ref D), some (.int (0 + i)), some (.str w4), u5] ∧ IsName w4 ∧ (w4 ∉ ws ∨ ∀ v ∈ spares.take j, v ∈ ws)) ?_ ?_ ?_ ?_
        · exact ⟨rfl, w3, u5, rfl, hw3, .inr fun v hv => nomatch hv⟩
        · rintro j σ H4 _ ⟨rfl, _⟩
          exact SqL.of upd_same
        · rintro j x σ H4 hj ⟨rfl, w4, u5', rfl, hw4, hor⟩
          rw [List.getElem?_map] at hj
          obtain ⟨v, hv, rfl⟩ := Option.map_eq_some_iff.mp hj
          have fl := flat_strs1 ws
          have h4 : upd H3 L (.lst (spares.map V.str)) D = some (.lst (ws.map V.str)) := upd_get nLD h3
          refine ⟨_, rfl, _, rfl, D, _, rfl, .inl (SqL.of h4), rfl, fl, ?_⟩
          rw [if_neg (by decide), in_strs]
          refine ⟨_, rfl, ifD (fun e => ?_) (fun e => ?_)⟩
          · walk_at "go"
            refine wait ⟨rfl, v, _, rfl, spares_ok v (List.mem_of_getElem? hv), ?_⟩
            rcases hor with z | z
            · exact absurd e z
            · by_cases y : v ∈ ws
              · refine .inr fun u hu => ?_
                rw [List.take_add_one, hv, Option.toList_some] at hu
                rcases List.mem_append.mp hu with t | t
                · exact z u t
                · rw [List.mem_singleton.mp t]; exact y
              · exact .inl y
          · exact wait ⟨rfl, w4, _, rfl, hw4, .inl e⟩
        · rintro σ H4 ⟨rfl, w4, u5', rfl, hw4, hor⟩
          have h4 : upd H3 L (.lst (spares.map V.str)) D = some (.lst (ws.map V.str)) := upd_get nLD h3
          have hno : w4 ∉ ws := by
            rcases hor with z | z
            · exact z
            · exfalso
              have := nodup_sub_len spares_nd fun v hv => z v (by rw [List.length_map, List.take_length]; exact hv)
              have e16 : spares.length = 16 := rfl
              omega
          have nL := B3.fresh hL
          walk_at "go"
          refine ⟨small_lt (by rw [List.length_map]; omega), wait ⟨_, _, _, ws ++ [w4], n3, rfl, by rw [List.length_append, hl] <;> rfl, ?_, ?_, ?_, (B3.upd nL).upd nD, by omega, ?_⟩⟩
          · exact nodup_snoc hd hno
          · intro x hx
            rcases List.mem_append.mp hx with z | z
            · exact hw x z
            · rw [List.mem_singleton.mp z]; exact hw4
          · rw [upd_same, List.map_append] <;> rfl
          · intro x o a1 a2 a3 e
            have e3 := k3 x o a1 a2 (k2 x o a1 a2 (k1 x o a1 a2 a3 e))
            rw [upd_ne a3, upd_ne (ne_of_none e3 hL)]
            exact e3
    · rintro σ H' ⟨u3, u4, u5, ws, n1, rfl, hl, hd, hw, h1, B1, hn1, k1⟩
      walk_at "go"
      exact q D ws n1 _ (by omega) hd hw hD h1 B1 (by omega) fun x o a1 a2 e => k1 x o a1 a2 (ne_of_none e hD) e
end
end Pf
set_option Elab.async false
set_option linter.all false
set_option maxRecDepth 100000
set_option maxHeartbeats 4000000
namespace Pf
open PySem L2
local macro_rules | `(tactic| walk_at "nz") => `(tactic| (show (_ : Int) ≠ 0; omega))
local macro_rules | `(tactic| walk_at "ne") => `(tactic| first | assumption | (apply Ne.symm; assumption))
local macro_rules | `(tactic| walk_at "hp") => `(tactic| first | assumption | exact upd_same | (refine upd_get ?_ ?_; walk_at "ne"; walk_at "hp"))
local macro_rules | `(tactic| walk_at "sd") => `(tactic| first
  | (with_reducible show (_ : Int) < _; omega)
  | (with_reducible show (_ : Int) ≤ _; omega)
  | (with_reducible show (_ : Nat) < _; omega)
  | (with_reducible show (_ : Nat) ≤ _; omega)
  | rfl
  | assumption
  | exact kV_int _
  | exact kV_str _
  | (show (_ : Int) ≠ 0; omega)
  | exact SqL.of (by walk_at "hp")
  | exact ⟨_, SqL.of (by walk_at "hp")⟩
  | exact ⟨_, SqT.of (by walk_at "hp")⟩
  | exact ⟨_, (by assumption)⟩
  | exact SqT.of (by walk_at "hp")
  | exact Rd.of (by walk_at "hp")
  | exact Or.inl (SqL.of (by walk_at "hp"))
  | exact Or.inr (SqT.of (by walk_at "hp"))
  | exact Or.inr (by assumption)
  | (walk_at "hp")
  | (exact Or.inl ⟨rfl, _, SqL.of (by walk_at "hp")⟩)
  | (exact Or.inl ⟨by omega, by omega⟩)
  | (exact Or.inr ⟨by omega, by omega⟩)
  | (refine ⟨?_, ?_, ?_⟩ <;> omega)
  | omega
  | (exact small_le (by first | omega | (simp only [List.length_cons, List.length_nil]; omega)))
  | (exact small_lt (by first | omega | (simp only [List.length_cons, List.length_nil]; omega)))
  | exact Nat.le_of_ble_eq_true rfl
  | exact ⟨_, rfl⟩
  | decide)
local macro_rules | `(tactic| walk_at "st") => `(tactic| first
  | with_reducible refine sq_seq ?_
  | apply Exists.intro
  | (refine And.intro ?_ ?_; (walk_at "sd")))
local macro_rules | `(tactic| walk_at "go") => `(tactic| repeat (walk_at "st"))
section
variable {P : Program} {w : World} {K : PySem.W.Frag} {mg : Str → Option Value} {base : Heap} {a : Ad}
theorem BoxAt.tups {H H' : Hp} {b g l : Addr} {n : Int} (B : BoxAt H b g l n) (k : Keep2 b g H H') : ∀ t ys, H t = some (.tup ys) → H' t = some (.tup ys) := fun t ys e => by
  obtain ⟨⟨_, h1⟩, ⟨_, h2⟩, _⟩ := B.lists
  exact k _ _ (ne_of e h1 (by intro z; cases z)) (ne_of e h2 (by intro z; cases z)) e
theorem cutV_from (xs : List V) (k : Nat) : cutV xs (some (k : Int)) none = xs.drop k := by
  unfold cutV
  rw [HT.sIx_nat, HT.sIx_none]
  by_cases h : k ≤ xs.length
  · rw [Nat.min_eq_left h, List.take_of_length_le (by rw [List.length_drop] <;> omega)]
  · rw [Nat.min_eq_right (by omega), List.drop_eq_nil_of_le (by omega), List.drop_eq_nil_of_le (by omega), List.take_nil]
theorem cutV_to (xs : List V) (k : Nat) : cutV xs none (some (k : Int)) = xs.take k := by
  unfold cutV
  rw [HT.sIx_nat, HT.sIx_none, List.drop_zero, Nat.sub_zero]
  by_cases h : k ≤ xs.length
  · rw [Nat.min_eq_left h]
  · rw [Nat.min_eq_right (by omega), List.take_of_length_le (by omega), List.take_of_length_le (by omega)]
theorem cutV_f1 (xs : List V) : cutV xs (some 1) none = xs.drop 1 := cutV_from xs 1
theorem cutV_t1 (xs : List V) : cutV xs none (some 1) = xs.take 1 := cutV_to xs 1
theorem drop_take_perm {α : Type} (l : List α) (k : Nat) : (l.drop k ++ l.take k).Perm l := (List.perm_append_comm).trans (by rw [List.take_append_drop])
/-! ### pairs -/
structure Pr where
  near : Str
  far : Str
  laden : Bool
def PrAt (H : Hp) (e : Addr × Pr) : Prop := H e.1 = some (.tup [.str e.2.near, .str e.2.far, .bl e.2.laden])
structure PairsAt (H : Hp) (D : Addr) (L : List (Addr × Pr)) : Prop where
  ls : H D = some (.lst (L.map fun e => V.ref e.1))
  at_ : ∀ e ∈ L, PrAt H e
theorem PairsAt.keep {H H' : Hp} {D : Addr} {L : List (Addr × Pr)} (h : PairsAt H D L) (k : ∀ o, H D = some o → H' D = some o) (kt : ∀ t ys, H t = some (.tup ys) → H' t = some (.tup ys)) : PairsAt H' D L :=
  ⟨k _ h.ls, fun e he => kt _ _ (h.at_ e he)⟩
theorem PairsAt.same {H H' : Hp} {D : Addr} {L : List (Addr × Pr)} (h : PairsAt H D L) (k : Same H H') : PairsAt H' D L := h.keep (fun o e => k _ _ e) fun t ys e => k _ _ e
structure Good (ps : List Pr) : Prop where
  len : ps.length ≤ 6
  nn : (ps.map (·.near)).Nodup
  nf : (ps.map (·.far)).Nodup
  kn : ∀ p ∈ ps, IsName p.near
  kf : ∀ p ∈ ps, IsName p.far
def spPairs : Sp := fun vs H Q _ => ∃ (b g l : Addr) (n m : Int), vs = [.ref b, .int m] ∧ BoxAt H b g l n ∧ n ≤ 700000 ∧ 0 ≤ m ∧ m ≤ 6 ∧
  ∀ (D : Addr) (L : List (Addr × Pr)) (n' : Int) (H' : Hp), Good (L.map (·.2)) → H D = none → PairsAt H' D L → (∀ e ∈ L, H e.1 = none) → BoxAt H' b g l n' → n' ≤ n + 200 → Keep2 b g H H' → Q (.ref D) H'
theorem keep_none {b g : Addr} {H H' : Hp} {x : Addr} (k : Keep2 b g H H') (n1 : x ≠ b) (n2 : x ≠ g) (h : H' x = none) : H x = none := by
  cases z : H x with
  | none => rfl
  | some o => rw [k x o n1 n2 z] at h; cases h
theorem ok__law_pairs (T : Txt K mg a) : FnOk P w K mg base CX0 5 a.f__law_pairs a.d__law_pairs ["_law_box_here", "_law_most"] spPairs := by
  have G__law_take := ok__law_take (P := P) (w := w) (base := base) T
  have G__law_names := ok__law_names (P := P) (w := w) (base := base) T
  refine T.F__law_pairs.ok sc__law_pairs (fun vs H Q E h => ?_) (fun cdv A outer s H vs Q E hr h => ?_)
  · obtain ⟨b, g, l, n, m, rfl, _⟩ := h
    rfl
  · obtain ⟨b, g, l, n, m, rfl, B, hn, m0, m1, q⟩ := h
    refine ⟨_, (pss_cons (ps_set (i := 2) sc__law_pairs.nd rfl (Or.inl rfl) (pe_call G__law_names (hr.mono (by decide)) rfl T.m__law_names T.F__law_names.kp T.b__law_names .nil pass0 (pa_cons (pv 0) (pa_cons (pe_call G__law_take (hr.mono (by decide)) rfl T.m__law_take T.F__law_take.kp T.b__law_take .nil pass0 (pa_cons (pv 0) (pa_cons (pe_op op_add (pv 1) pe_int) pa_nil))) pa_nil))))
      (pss_cons (ps_set (i := 3) sc__law_pairs.nd rfl (Or.inl rfl) (pe_call G__law_names (hr.mono (by decide)) rfl T.m__law_names T.F__law_names.kp T.b__law_names .nil pass0 (pa_cons (pv 0) (pa_cons (pe_callB call_lenK (by rfl) T.z_len PySem.boot_len (pa_cons (pv 2) pa_nil)) pa_nil))))
      (pss_mid (ps_if (pt_cmpR op_eq (pe_call G__law_take (hr.mono (by decide)) rfl T.m__law_take T.F__law_take.kp T.b__law_take .nil pass0 (pa_cons (pv 0) (pa_cons pe_int pa_nil))) pe_int (nomark _)) (pss_one (ps_set (i := 3) sc__law_pairs.nd rfl (Or.inl rfl) (pe_op op_cat (pe_slice sl_list (pv 2) (po_some pe_int) po_none) (pe_slice sl_list (pv 2) po_none (po_some pe_int))))) pss_nil)
      (pss_one (ps_ret (pe_lc (own := [("_law_near", 4), ("_law_far", 5)]) (g := gTup K 2 (gCons (gName 4) (gCons (gName 5) gNil))) (tt := tYes) rfl sc__law_pairs.nd (pi_zip rfl T.z_zip (pa_cons (pv 2) (pa_cons (pv 3) pa_nil))) (blkOk_by (own := [("_law_near", 4), ("_law_far", 5)]) (N := n__law_pairs) (sc := defScope s__law_pairs) (by decide +kernel)) (fun _ _ _ _ _ => (pg_tup rfl (pgs_cons (pg_name (i := 4) sc__law_pairs.nd rfl (Or.inl rfl)) (pgs_cons (pg_name (i := 5) sc__law_pairs.nd rfl (Or.inl rfl)) pgs_nil)))) (fun _ _ _ _ _ => pts_nil) (fun _ _ _ _ _ => (pe_tup (pa_cons (pv 4) (pa_cons (pv 5) (pa_cons (pe_cmpR op_eq (pe_call G__law_take (hr.mono (by decide)) rfl T.m__law_take T.F__law_take.kp T.b__law_take .nil pass0 (pa_cons (pv 0) (pa_cons pe_int pa_nil))) pe_int (nomark _)) pa_nil))))))))))), ?_⟩
    walk_at "go"
    intro r1 H1 r10 r11 B1 k1
    walk_at "go"
    intro N ns n2 H2 hl2 nd2 hn2 hN h2 B2 hb2 k2
    have nN := B1.fresh hN
    have lm : (ns.map V.str).length = ns.length := List.length_map _
    walk_at "go"
    intro F fs n3 H3 hl3 nd3 hn3 hF h3 B3 hb3 k3
    have nF := B2.fresh hF
    have h3N := k3 _ _ nN.1 nN.2.1 h2
    refine mid_of (fun σ H4 => ∃ (F' : Addr) (fs' : List Str) (n4 : Int), σ = [some (.ref b), some (.int m), some (.ref N), some (.ref F'), none, none] ∧ H4 N = some (.lst (ns.map V.str)) ∧ H4 F' = some (.lst (fs'.map V.str)) ∧ fs'.length = ns.length ∧ fs'.Nodup ∧ (∀ w ∈ fs', IsName w) ∧ BoxAt H4 b g l n4 ∧ n4 ≤ n3 + 1 ∧ F' ≠ b ∧ F' ≠ g ∧ Keep2 b g H3 H4) ?_ ?_
    · walk_at "go"
      intro r4 H4 r40 r41 B4 k4
      have h4N := k4 _ _ nN.1 nN.2.1 h3N
      have h4F := k4 _ _ nF.1 nF.2.1 h3
      walk_at "go"
      refine ifD (fun _ => ?_) (fun _ => ?_)
      · walk_at "go"
        intro p5 hp5
        rw [cutV_f1]
        have h5N := Same.upd_new (o := .lst ((ns.map V.str).drop 1)) hp5 _ _ h4N
        have B5 := B4.same (Same.upd_new (o := .lst ((ns.map V.str).drop 1)) hp5)
        walk_at "go"
        intro p6 hp6
        rw [cutV_t1]
        have n56 : p5 ≠ p6 := fun z => by rw [← z, upd_same] at hp6; cases hp6
        have h6N := Same.upd_new (o := .lst ((ns.map V.str).take 1)) hp6 _ _ h5N
        have B6 := B5.same (Same.upd_new (o := .lst ((ns.map V.str).take 1)) hp6)
        have hsz : ((ns.map V.str).drop 1).length + ((ns.map V.str).take 1).length ≤ sizeLine := small_le (by rw [List.length_drop, List.length_take]; omega)
        walk_at "go"
        intro p7 hp7
        have h7N := Same.upd_new (o := .lst ((ns.map V.str).drop 1 ++ (ns.map V.str).take 1)) hp7 _ _ h6N
        have B7 := B6.same (Same.upd_new (o := .lst ((ns.map V.str).drop 1 ++ (ns.map V.str).take 1)) hp7)
        have f7 := B6.fresh hp7
        have pp := drop_take_perm ns 1
        refine wait ⟨p7, ns.drop 1 ++ ns.take 1, _, rfl, h7N, ?_, ?_, ?_, fun x hx => hn2 x (pp.mem_iff.mp hx), B7, by omega, f7.1, f7.2.1, ?_⟩
        · rw [upd_same, List.map_append, List.map_drop, List.map_take]
        · exact pp.length_eq
        · exact pp.nodup_iff.mpr nd2
        · exact k4.trans fun x o _ _ e => Same.upd_new hp7 _ _ (Same.upd_new hp6 _ _ (Same.upd_new hp5 _ _ e))
      · refine wait ⟨F, fs, _, rfl, h4N, h4F, ?_, nd3, hn3, B4, by omega, nF.1, nF.2.1, k4⟩
        rw [List.length_map] at hl3
        omega
    · rintro σ H4 ⟨F', fs', n4, rfl, h4N, h4F, hl4, nd4, hn4, B4, hb4, nF1, nF2, k4⟩
      have lmf : (fs'.map V.str).length = fs'.length := List.length_map _
      have back : ∀ x, H4 x = none → H x = none := fun x hx => by
        have nx := B4.fresh hx
        exact keep_none k1 nx.1 nx.2.1 (keep_none k2 nx.1 nx.2.1 (keep_none k3 nx.1 nx.2.1 (keep_none k4 nx.1 nx.2.1 hx)))
      walk_at "go"
      intro D hD
      have nD := B4.fresh hD
      refine lcW (walk_zip (K := K) (xs := ns.map V.str) (ys := fs'.map V.str) (n := ns.length) (by omega)) (fun i H' => ∃ (L : List (Addr × Pr)) , L.length = i ∧ L.map (·.2.near) = ns.take i ∧ L.map (·.2.far) = fs'.take i ∧ PairsAt H' D L ∧ (∀ e ∈ L, H4 e.1 = none ∧ e.1 ≠ D) ∧ BoxAt H' b g l (n4 + i) ∧ (∀ x o, x ≠ b → x ≠ g → x ≠ D → H4 x = some o → H' x = some o)) ?_ ?_ ?_ ?_
      · exact ⟨[], rfl, rfl, rfl, ⟨upd_same, fun _ h => nomatch h⟩, (fun _ h => nomatch h), by rw [show n4 + ((0 : Nat) : Int) = n4 by omega]; exact B4.upd nD, fun x o _ _ a3 e => upd_get a3 e⟩
      · rintro i H' _ ⟨L, _, _, _, _, _, _, k5⟩
        exact ⟨SqL.of (k5 _ _ nN.1 nN.2.1 (ne_of_none h4N hD) h4N), SqL.of (k5 _ _ nF1 nF2 (ne_of_none h4F hD) h4F)⟩
      · rintro i x H5 H6 hi ⟨L, hL, e1, e2, PA, fr, B5, k5⟩ ⟨t, x1, x2, rfl, ht, rfl, hx1, hx2⟩
        have s6 : Same H5 (upd H5 t (.tup [x1, x2])) := Same.upd_new ht
        have hx1 : (ns.map V.str)[i]? = some x1 := hx1
        have hx2 : (fs'.map V.str)[i]? = some x2 := hx2
        rw [List.getElem?_map] at hx1 hx2
        obtain ⟨u1, hu1, rfl⟩ := Option.map_eq_some_iff.mp hx1
        obtain ⟨u2, hu2, rfl⟩ := Option.map_eq_some_iff.mp hx2
        have B6 := B5.same s6
        walk_at "go"
        intro r7 H7 r70 r71 B7 k7
        walk_at "go"
        intro p8 hp8
        have h7D := k7 _ _ nD.1 nD.2.1 (s6 _ _ PA.ls)
        have s8 : Same H7 (upd H7 p8 (.tup [.str u1, .str u2, .bl (decide (V.int r7 = V.int 1))])) := Same.upd_new hp8
        have n8D : p8 ≠ D := (ne_of_none h7D hp8).symm
        have B8 := B7.same s8
        have PA8 : PairsAt (upd H7 p8 (.tup [.str u1, .str u2, .bl (decide (V.int r7 = V.int 1))])) D L := PA.keep (fun o e => s8 _ _ (k7 _ _ nD.1 nD.2.1 (s6 _ _ e))) fun t ys e => s8 _ _ (B6.tups k7 _ _ (s6 _ _ e))
        have n8 := B7.fresh hp8
        refine ⟨_, s8 _ _ h7D, small_lt (by rw [List.length_map]; omega), wait ⟨L ++ [(p8, ⟨u1, u2, decide (V.int r7 = V.int 1)⟩)], by rw [List.length_append, hL] <;> rfl, ?_, ?_, ⟨?_, ?_⟩, ?_, ?_, ?_⟩⟩
        · rw [List.map_append, e1, List.take_add_one, hu1] <;> rfl
        · rw [List.map_append, e2, List.take_add_one, hu2] <;> rfl
        · rw [upd_same, List.map_append] <;> rfl
        · intro e he
          rcases List.mem_append.mp he with z | z
          · exact upd_get (fr e z).2 (PA8.at_ e z)
          · rw [List.mem_singleton.mp z]
            exact upd_get n8D upd_same
        · intro e he
          rcases List.mem_append.mp he with z | z
          · exact fr e z
          · rw [List.mem_singleton.mp z]
            refine ⟨?_, n8D⟩
            cases y : H4 p8 with
            | none => rfl
            | some o => rw [k7 _ _ n8.1 n8.2.1 (s6 _ _ (k5 _ _ n8.1 n8.2.1 n8D y))] at hp8; cases hp8
        · rw [show n4 + ((i + 1 : Nat) : Int) = n4 + (i : Int) + 1 by omega]
          exact B8.upd nD
        · exact fun x o a1 a2 a3 e => upd_get a3 (s8 _ _ (k7 x o a1 a2 (s6 _ _ (k5 x o a1 a2 a3 e))))
      · rintro H5 ⟨L, hL, e1, e2, PA, fr, B5, k5⟩
        have ef : L.map (fun e => e.2.far) = fs' := by rw [e2, ← hl4, List.take_length]
        rw [List.take_length] at e1
        refine q D L _ _ ⟨?_, ?_, ?_, ?_, ?_⟩ ?_ PA ?_ B5 ?_ ?_
        · rw [List.length_map]; omega
        · rw [List.map_map]; exact e1 ▸ nd2
        · rw [List.map_map]; exact ef ▸ nd4
        · intro p hp
          obtain ⟨e, he, rfl⟩ := List.mem_map.mp hp
          exact hn2 _ (by rw [← e1]; exact List.mem_map.mpr ⟨e, he, rfl⟩)
        · intro p hp
          obtain ⟨e, he, rfl⟩ := List.mem_map.mp hp
          exact hn4 _ (by rw [← ef]; exact List.mem_map.mpr ⟨e, he, rfl⟩)
        · exact back _ hD
        · exact fun e he => back _ (fr e he).1
        · omega
        · intro x o a1 a2 e
          have e4 := k4 x o a1 a2 (k3 x o a1 a2 (k2 x o a1 a2 (k1 x o a1 a2 e)))
          exact k5 x o a1 a2 (ne_of_none e4 hD) e4
end
end Pf
set_option Elab.async false
set_option linter.all false
set_option maxRecDepth 100000
set_option maxHeartbeats 4000000
namespace Pf
open PySem L2
local macro_rules | `(tactic| walk_at "nz") => `(tactic| (show (_ : Int) ≠ 0; omega))
local macro_rules | `(tactic| walk_at "ne") => `(tactic| first | assumption | (apply Ne.symm; assumption))
local macro_rules | `(tactic| walk_at "hp") => `(tactic| first | assumption | exact upd_same | (refine upd_get ?_ ?_; walk_at "ne"; walk_at "hp"))
local macro_rules | `(tactic| walk_at "sd") => `(tactic| first
  | (with_reducible show (_ : Int) < _; omega)
  | (with_reducible show (_ : Int) ≤ _; omega)
  | (with_reducible show (_ : Nat) < _; omega)
  | (with_reducible show (_ : Nat) ≤ _; omega)
  | rfl
  | assumption
  | exact kV_int _
  | exact kV_str _
  | (show (_ : Int) ≠ 0; omega)
  | exact SqL.of (by walk_at "hp")
  | exact ⟨_, SqL.of (by walk_at "hp")⟩
  | exact ⟨_, SqT.of (by walk_at "hp")⟩
  | exact ⟨_, (by assumption)⟩
  | exact SqT.of (by walk_at "hp")
  | exact Rd.of (by walk_at "hp")
  | exact Or.inl (SqL.of (by walk_at "hp"))
  | exact Or.inr (SqT.of (by walk_at "hp"))
  | exact Or.inr (by assumption)
  | (walk_at "hp")
  | (exact Or.inl ⟨rfl, _, SqL.of (by walk_at "hp")⟩)
  | (exact Or.inl ⟨by omega, by omega⟩)
  | (exact Or.inr ⟨by omega, by omega⟩)
  | (refine ⟨?_, ?_, ?_⟩ <;> omega)
  | omega
  | (exact small_le (by first | omega | (simp only [List.length_cons, List.length_nil]; omega)))
  | (exact small_lt (by first | omega | (simp only [List.length_cons, List.length_nil]; omega)))
  | exact Nat.le_of_ble_eq_true rfl
  | exact ⟨_, rfl⟩
  | decide)
local macro_rules | `(tactic| walk_at "st") => `(tactic| first
  | with_reducible refine sq_seq ?_
  | apply Exists.intro
  | (refine And.intro ?_ ?_; (walk_at "sd")))
local macro_rules | `(tactic| walk_at "go") => `(tactic| repeat (walk_at "st"))
section
variable {P : Program} {w : World} {K : PySem.W.Frag} {mg : Str → Option Value} {base : Heap} {a : Ad}
/-! ### Pacts -/
def nameB (w : Str) : Bool := (decide (1 ≤ w.length) && decide (w.length ≤ 8)) && w.cps.toList.all fun c => decide (c ∈ (Str.ofString "abcdefghijklmnopqrstuvwxyz").cps.toList)
theorem mem_abc {c : Nat} : c ∈ (Str.ofString "abcdefghijklmnopqrstuvwxyz").cps.toList ↔ 97 ≤ c ∧ c ≤ 122 := by
  rw [abc_cps, List.mem_map]
  constructor
  · rintro ⟨k, hk, rfl⟩
    have := List.mem_range.mp hk
    omega
  · intro h
    exact ⟨c - 97, List.mem_range.mpr (by omega), by omega⟩
theorem nameB_iff {w : Str} : nameB w = true ↔ IsName w := by
  unfold nameB
  rw [Bool.and_eq_true, Bool.and_eq_true, List.all_eq_true]
  constructor
  · intro h
    exact ⟨of_decide_eq_true h.1.1, of_decide_eq_true h.1.2, fun c hc => mem_abc.mp (of_decide_eq_true (h.2 c hc))⟩
  · intro h
    exact ⟨⟨decide_eq_true h.lo, decide_eq_true h.hi⟩, fun c hc => decide_eq_true (mem_abc.mpr (h.cs c hc))⟩
def spIsName : Sp := fun vs H Q _ => ∃ w : Str, vs = [.str w] ∧ w.length ≤ 100000 ∧ ∀ H', Same H H' → Q (.bl (nameB w)) H'
theorem ok_is_name (T : Txt K mg a) : FnOk P w K mg base CX0 1 a.f_is_name a.d_is_name ["word"] spIsName := by
  refine T.F_is_name.ok sc_is_name (fun vs H Q E h => ?_) (fun cdv A outer s H vs Q E hr h => ?_)
  · obtain ⟨w, rfl, _⟩ := h
    rfl
  · obtain ⟨w, rfl, hl, q⟩ := h
    have hsz : w.length ≤ sizeLine := small_le hl
    refine ⟨_, (pss_one (ps_ret (pe_and (pe_chain op_le op_le pe_int (pe_callB call_len_str (by rfl) T.z_len PySem.boot_len (pa_cons (pv 0) pa_nil)) (pe_globI rfl T.g_MOST)) (pe_one (pe_callB (cr_all rfl) (by rfl) T.z_all (by decide +kernel) (pa_cons (pe_lc (own := [("sign", 1)]) (g := gName 1) (tt := tYes) rfl sc_is_name.nd (pi_str (pv 0)) (blkOk_by (own := [("sign", 1)]) (N := n_is_name) (sc := defScope s_is_name) (by decide +kernel)) (fun _ _ _ _ _ => (pg_name (i := 1) sc_is_name.nd rfl (Or.inl rfl))) (fun _ _ _ _ _ => pts_nil) (fun _ _ _ _ _ => (pe_cmpR op_in_str (pv 1) (pe_globS rfl T.g_LETTERS) rfl))) pa_nil)))))), ?_⟩
    walk_at "go"
    refine ifD (fun h1 => ?_) (fun h1 => ?_)
    · walk_at "go"
      refine ifD (fun h2 => ?_) (fun h2 => ?_)
      · walk_at "go"
        intro D hD
        refine lcW (walk_str (z := w)) (fun i H' => H' D = some (.lst ((((w.cps.toList.take i).map fun c => decide (c ∈ (Str.ofString "abcdefghijklmnopqrstuvwxyz").cps.toList))).map V.bl)) ∧ Same H H') ?_ ?_ ?_ ?_
        · exact ⟨upd_same, Same.upd_new hD⟩
        · exact fun _ _ _ _ => trivial
        · rintro i x H1 _ hi ⟨g1, g2⟩ ⟨rfl, c, hc, rfl⟩
          have hc2 : w.cps.toList[i]? = some c := by rw [Array.getElem?_toList]; exact hc
          have hlt : (w.cps.toList.take i).length ≤ 8 := by
            rw [List.length_take, Array.length_toList]
            have : w.length = w.cps.size := rfl
            omega
          refine ⟨rfl, ?_⟩
          walk_at "go"
          refine ⟨small_lt (by rw [List.length_map, List.length_map]; omega), wait ⟨?_, fun x o e => upd_get (ne_of_none e hD) (g2 x o e)⟩⟩
          rw [upd_same, StrLaws.found_one, List.take_add_one, hc2, List.map_append, List.map_append] <;> rfl
        · rintro H1 ⟨g1, g2⟩
          walk_at "go"
          have e1 : nameB w = ((w.cps.toList.take w.cps.size).map fun c => decide (c ∈ (Str.ofString "abcdefghijklmnopqrstuvwxyz").cps.toList)).all id := by
            rw [List.take_of_length_le (by rw [Array.length_toList] <;> omega), List.all_map]
            unfold nameB
            rw [decide_eq_true (show 1 ≤ w.length by omega), decide_eq_true (show w.length ≤ 8 by omega)] <;> rfl
          rw [← e1]
          exact q _ g2
      · have e1 : nameB w = false := by
          unfold nameB
          rw [decide_eq_false (show ¬ w.length ≤ 8 by omega), Bool.and_false, Bool.false_and]
        rw [← e1]
        exact q _ (fun _ _ e => e)
    · have e1 : nameB w = false := by
        unfold nameB
        rw [decide_eq_false (show ¬ 1 ≤ w.length by omega), Bool.false_and, Bool.false_and]
      refine ⟨_, rfl, ifF rfl ?_⟩
      rw [← e1]
      exact q _ (fun _ _ e => e)
abbrev pf (kp kd : Addr) : List (Str × V) := [(("kept_pairs" : Str), V.ref kp), (("kept_pacts" : Str), V.ref kd)]
structure PactsAt (C : Addr) (H : Hp) (x kp kd : Addr) (L : List (Addr × Pr)) (kvs : List (Key × V)) : Prop where
  ob : ∃ dx, H x = some (.ins C dx (pf kp kd))
  pr : PairsAt H kp L
  pc : H kd = some (.dK kvs)
theorem PactsAt.same {C : Addr} {H H' : Hp} {x kp kd : Addr} {L : List (Addr × Pr)} {kvs : List (Key × V)} (h : PactsAt C H x kp kd L kvs) (k : Same H H') : PactsAt C H' x kp kd L kvs := by
  obtain ⟨dx, ho⟩ := h.ob
  exact ⟨⟨dx, k _ _ ho⟩, h.pr.same k, k _ _ h.pc⟩
def Pr.word (p : Pr) (s : Int) : Str := if s = 0 then p.near else p.far
theorem pr_at (p : Pr) {s : Int} (hs : s = 0 ∨ s = 1) : atI [V.str p.near, .str p.far, .bl p.laden] s = some (.str (p.word s)) := by
  rcases hs with rfl | rfl <;> rfl
theorem pr_at1 (p : Pr) {s : Int} (hs : s = 0 ∨ s = 1) : atI [V.str p.near, .str p.far, .bl p.laden] (1 - s) = some (.str (p.word (1 - s))) := by
  rcases hs with rfl | rfl <;> rfl
def spWords (C : Addr) : Sp := fun vs H Q _ => ∃ (x kp kd : Addr) (L : List (Addr × Pr)) (kvs : List (Key × V)) (s : Int), vs = [.ref x, .int s] ∧ PactsAt C H x kp kd L kvs ∧ (s = 0 ∨ s = 1) ∧ L.length ≤ 10000 ∧
  ∀ D H', H D = none → H' D = some (.lst ((L.map fun e => e.2.word s).map V.str)) → Same H H' → Q (.ref D) H'
theorem ok_Pacts_words_called (T : Txt K mg a) : FnOk P w K mg base CX0 1 a.f_Pacts_words_called a.d_Pacts_words_called ["self", "side"] (spWords a.c_Pacts) := by
  have cl := T.cl_Pacts
  have n1 := T.na_Pacts_kept_pairs
  refine T.F_Pacts_words_called.ok sc_Pacts_words_called (fun vs H Q E h => ?_) (fun cdv A outer s H vs Q E hr h => ?_)
  · obtain ⟨x, kp, kd, L, kvs, s, rfl, _⟩ := h
    rfl
  · obtain ⟨x, kp, kd, L, kvs, s, rfl, PA, hs, hl, q⟩ := h
    obtain ⟨dx, ho⟩ := PA.ob
    have hls := PA.pr.ls
    refine ⟨_, (pss_one (ps_ret (pe_lc (own := [("pair", 2)]) (g := gName 2) (tt := tYes) (te := (tOp (rIxT K) _ _)) rfl sc_Pacts_words_called.nd (pi_list (by exact (pe_fld (pv 0) rfl))) (blkOk_by (own := [("pair", 2)]) (N := n_Pacts_words_called) (sc := defScope s_Pacts_words_called) (by decide +kernel)) (fun _ _ _ _ _ => (pg_name (i := 2) sc_Pacts_words_called.nd rfl (Or.inl rfl))) (fun _ _ _ _ _ => pts_nil) (fun _ _ _ _ _ => (pe_ix ix_tup (pv 2) (pv 1) (fun _ _ => rfl)))))), ?_⟩
    walk_at "go"
    intro D hD
    refine lcL (K := K) (a := kp) (xs := L.map fun e => V.ref e.1) (fun i H' => H' D = some (.lst (((L.take i).map fun e => e.2.word s).map V.str)) ∧ Same H H') ?_ ?_ ?_ ?_
    · exact ⟨upd_same, Same.upd_new hD⟩
    · exact fun i H' _ h => SqL.of (h.2 _ _ hls)
    · rintro i y H' hi ⟨g1, g2⟩
      rw [List.getElem?_map] at hi
      obtain ⟨e, he, rfl⟩ := Option.map_eq_some_iff.mp hi
      have hp : H' e.1 = _ := g2 _ _ (PA.pr.at_ e (List.mem_of_getElem? he))
      have hlt := (List.getElem?_eq_some_iff.mp he).1
      have hat := pr_at e.2 hs
      refine ⟨rfl, ?_⟩
      walk_at "go"
      refine ⟨small_lt (by rw [List.length_map, List.length_map, List.length_take]; omega), wait ⟨?_, fun x o e => upd_get (ne_of_none e hD) (g2 x o e)⟩⟩
      rw [upd_same, List.take_add_one, he, List.map_append, List.map_append] <;> rfl
    · rintro H' ⟨g1, g2⟩
      rw [List.length_map, List.take_length] at g1
      walk_at "go"
      exact q D _ hD g1 g2
end
end Pf
set_option Elab.async false
set_option linter.all false
set_option maxRecDepth 100000
set_option maxHeartbeats 4000000
namespace Pf
open PySem L2
local macro_rules | `(tactic| walk_at "nz") => `(tactic| (show (_ : Int) ≠ 0; omega))
local macro_rules | `(tactic| walk_at "ne") => `(tactic| first | assumption | (apply Ne.symm; assumption))
local macro_rules | `(tactic| walk_at "hp") => `(tactic| first | assumption | exact upd_same | (refine upd_get ?_ ?_; walk_at "ne"; walk_at "hp"))
local macro_rules | `(tactic| walk_at "sd") => `(tactic| first
  | (with_reducible show (_ : Int) < _; omega)
  | (with_reducible show (_ : Int) ≤ _; omega)
  | (with_reducible show (_ : Nat) < _; omega)
  | (with_reducible show (_ : Nat) ≤ _; omega)
  | rfl
  | assumption
  | exact kV_int _
  | exact kV_str _
  | (show (_ : Int) ≠ 0; omega)
  | exact SqL.of (by walk_at "hp")
  | exact ⟨_, SqL.of (by walk_at "hp")⟩
  | exact ⟨_, SqT.of (by walk_at "hp")⟩
  | exact ⟨_, (by assumption)⟩
  | exact SqT.of (by walk_at "hp")
  | exact Rd.of (by walk_at "hp")
  | exact Or.inl (SqL.of (by walk_at "hp"))
  | exact Or.inr (SqT.of (by walk_at "hp"))
  | exact Or.inr (by assumption)
  | (walk_at "hp")
  | (exact Or.inl ⟨rfl, _, SqL.of (by walk_at "hp")⟩)
  | (exact Or.inl ⟨by omega, by omega⟩)
  | (exact Or.inr ⟨by omega, by omega⟩)
  | (refine ⟨?_, ?_, ?_⟩ <;> omega)
  | omega
  | (exact small_le (by first | omega | (simp only [List.length_cons, List.length_nil]; omega)))
  | (exact small_lt (by first | omega | (simp only [List.length_cons, List.length_nil]; omega)))
  | exact Nat.le_of_ble_eq_true rfl
  | exact ⟨_, rfl⟩
  | decide)
local macro_rules | `(tactic| walk_at "st") => `(tactic| first
  | with_reducible refine sq_seq ?_
  | apply Exists.intro
  | (refine And.intro ?_ ?_; (walk_at "sd")))
local macro_rules | `(tactic| walk_at "go") => `(tactic| repeat (walk_at "st"))
section
variable {P : Program} {w : World} {K : PySem.W.Frag} {mg : Str → Option Value} {base : Heap} {a : Ad}
def spPairsM (C : Addr) : Sp := fun vs H Q _ => ∃ (x kp kd : Addr) (L : List (Addr × Pr)) (kvs : List (Key × V)), vs = [.ref x] ∧ PactsAt C H x kp kd L kvs ∧
  ∀ D, H D = none → Q (.ref D) (upd H D (.lst (L.map fun e => V.ref e.1)))
theorem ok_Pacts_pairs (T : Txt K mg a) : FnOk P w K mg base CX0 1 a.f_Pacts_pairs a.d_Pacts_pairs ["self"] (spPairsM a.c_Pacts) := by
  have cl_Pacts := T.cl_Pacts
  have na_Pacts_kept_pairs := T.na_Pacts_kept_pairs
  have na_Pacts_kept_pacts := T.na_Pacts_kept_pacts
  refine T.F_Pacts_pairs.ok sc_Pacts_pairs (fun vs H Q E h => ?_) (fun cdv A outer s H vs Q E hr h => ?_)
  · obtain ⟨x, kp, kd, L, kvs, rfl, _⟩ := h
    rfl
  · obtain ⟨x, kp, kd, L, kvs, rfl, PA, q⟩ := h
    obtain ⟨dx, ho⟩ := PA.ob
    have hls := PA.pr.ls
    refine ⟨_, (pss_one (ps_ret (pe_callTy call_list_of (by rfl) T.z_list (by decide +kernel) (pa_cons (pe_fld (pv 0) rfl) pa_nil)))), ?_⟩
    walk_at "go"
    exact q
def spLenP (C : Addr) : Sp := fun vs H Q _ => ∃ (x kp kd : Addr) (L : List (Addr × Pr)) (kvs : List (Key × V)), vs = [.ref x] ∧ PactsAt C H x kp kd L kvs ∧ Q (.int kvs.length) H
theorem ok_Pacts___len__ (T : Txt K mg a) : FnOk P w K mg base CX0 1 a.f_Pacts___len__ a.d_Pacts___len__ ["self"] (spLenP a.c_Pacts) := by
  have cl_Pacts := T.cl_Pacts
  have na_Pacts_kept_pairs := T.na_Pacts_kept_pairs
  have na_Pacts_kept_pacts := T.na_Pacts_kept_pacts
  refine T.F_Pacts___len__.ok sc_Pacts___len__ (fun vs H Q E h => ?_) (fun cdv A outer s H vs Q E hr h => ?_)
  · obtain ⟨x, kp, kd, L, kvs, rfl, _⟩ := h
    rfl
  · obtain ⟨x, kp, kd, L, kvs, rfl, PA, q⟩ := h
    obtain ⟨dx, ho⟩ := PA.ob
    have hc := PA.pc
    refine ⟨_, (pss_one (ps_ret (pe_callB call_lenD (by rfl) T.z_len PySem.boot_len (pa_cons (pe_fld (pv 0) rfl) pa_nil)))), ?_⟩
    walk_at "go"
    exact q
def fitsP (ps : List Pr) (p : Pr) : Bool := decide (ps.length ≠ 6) && nameB p.near && nameB p.far && decide (p.near ∉ ps.map (·.near)) && decide (p.far ∉ ps.map (·.far))
def spFitsPair (C : Addr) : Sp := fun vs H Q _ => ∃ (x kp kd t : Addr) (L : List (Addr × Pr)) (kvs : List (Key × V)) (p : Pr), vs = [.ref x, .ref t] ∧ PactsAt C H x kp kd L kvs ∧ PrAt H (t, p) ∧ L.length ≤ 10000 ∧ p.near.length ≤ 100000 ∧ p.far.length ≤ 100000 ∧
  ∀ H', Same H H' → Q (.bl (fitsP (L.map (·.2)) p)) H'
theorem ok_Pacts_fits_pair (T : Txt K mg a) : FnOk P w K mg base CX0 2 a.f_Pacts_fits_pair a.d_Pacts_fits_pair ["self", "pair"] (spFitsPair a.c_Pacts) := by
  have G_is_name := ok_is_name (P := P) (w := w) (base := base) T
  have G_Pacts_words_called := ok_Pacts_words_called (P := P) (w := w) (base := base) T
  have cl_Pacts := T.cl_Pacts
  have na_Pacts_kept_pairs := T.na_Pacts_kept_pairs
  have na_Pacts_kept_pacts := T.na_Pacts_kept_pacts
  refine T.F_Pacts_fits_pair.ok sc_Pacts_fits_pair (fun vs H Q E h => ?_) (fun cdv A outer s H vs Q E hr h => ?_)
  · obtain ⟨x, kp, kd, t, L, kvs, p, rfl, _⟩ := h
    rfl
  · obtain ⟨x, kp, kd, t, L, kvs, p, rfl, PA, hp, hl, l1, l2, q⟩ := h
    obtain ⟨dx, ho⟩ := PA.ob
    have hls := PA.pr.ls
    have hp1 : H t = some (.tup [.str p.near, .str p.far, .bl p.laden]) := hp
    have lm : (L.map fun e => V.ref e.1).length = L.length := List.length_map _
    refine ⟨_, (pss_cons (ps_asg (pv 1) (pg_tup rfl (pgs_cons (pg_name (i := 2) sc_Pacts_fits_pair.nd rfl (Or.inl rfl)) (pgs_cons (pg_name (i := 3) sc_Pacts_fits_pair.nd rfl (Or.inl rfl)) (pgs_cons (pg_name (i := 4) sc_Pacts_fits_pair.nd rfl (Or.inl rfl)) pgs_nil)))))
      (pss_cons (ps_if (PW.pt (pw_or (pt_cmpR op_eq (pe_callB call_lenK (by rfl) T.z_len PySem.boot_len (pa_cons (pe_fld (pv 0) rfl) pa_nil)) (pe_globI rfl T.g_MOST_PAIRS) (nomark _)) (pw_or (pt_not (pt_val (pe_call G_is_name (hr.mono (by decide)) rfl T.m_is_name T.F_is_name.kp T.b_is_name .nil pass0 (pa_cons (pv 2) pa_nil)))) (pw_or1 (pt_not (pt_val (pe_call G_is_name (hr.mono (by decide)) rfl T.m_is_name T.F_is_name.kp T.b_is_name .nil pass0 (pa_cons (pv 3) pa_nil)))))))) (pss_one (ps_ret pe_bl)) pss_nil)
      (pss_one (ps_ret (pe_and (pe_cmpR op_notIn_seq (pv 2) (pe_meth (pv 0) T.cl_Pacts T.mt_Pacts_words_called G_Pacts_words_called (hr.mono (by decide)) T.b_Pacts_words_called .nil pass0 (pa_cons pe_int pa_nil)) (by rfl)) (pe_one (pe_cmpR op_notIn_seq (pv 3) (pe_meth (pv 0) T.cl_Pacts T.mt_Pacts_words_called G_Pacts_words_called (hr.mono (by decide)) T.b_Pacts_words_called .nil pass0 (pa_cons pe_int pa_nil)) (by rfl)))))))), ?_⟩
    walk_at "go"
    refine ifD (fun b => ?_) (fun b => ?_)
    · have e6 : L.length = 6 := by have := V.int.inj b; omega
      have ef : fitsP (L.map (·.2)) p = false := by
        unfold fitsP
        rw [decide_eq_false (show ¬ (L.map (·.2)).length ≠ 6 by rw [List.length_map]; exact fun z => z e6)]
        simp
      refine ifT rfl ?_
      walk_at "go"
      rw [← ef]
      exact q _ (fun _ _ e => e)
    · have e6 : (L.map (·.2)).length ≠ 6 := fun z => b (by rw [lm]; rw [List.length_map] at z; rw [z] <;> rfl)
      walk_at "go"
      intro H1 s1
      walk_at "go"
      cases en : nameB p.near with
      | false =>
        have ef : fitsP (L.map (·.2)) p = false := by unfold fitsP; rw [en]; simp
        have qq := q _ s1
        rw [ef] at qq
        walk_at "go"
        exact qq
      | true =>
        walk_at "go"
        intro H2 s2
        walk_at "go"
        cases ef0 : nameB p.far with
        | false =>
          have ef : fitsP (L.map (·.2)) p = false := by unfold fitsP; rw [ef0]; simp
          have qq := q _ (s1.trans s2)
          rw [ef] at qq
          walk_at "go"
          exact qq
        | true =>
          have PA2 := PA.same (s1.trans s2)
          obtain ⟨dx2, ho2⟩ := PA2.ob
          have hs0 : (0 : Int) = 0 ∨ (0 : Int) = 1 := .inl rfl
          have hs1 : (1 : Int) = 0 ∨ (1 : Int) = 1 := .inr rfl
          walk_at "go"
          intro D3 H3 hD3 h3 s3
          refine ⟨D3, _, rfl, .inl (SqL.of h3), rfl, flat_strs1 _, ?_⟩
          rw [if_pos rfl, in_strs]
          have PA3 := PA2.same s3
          obtain ⟨dx3, ho3⟩ := PA3.ob
          by_cases i1 : p.near ∈ L.map fun e => e.2.word 0
          · have ef : fitsP (L.map (·.2)) p = false := by
              unfold fitsP
              rw [decide_eq_false (show ¬ p.near ∉ (L.map (·.2)).map (·.near) by rw [List.map_map]; exact fun z => z i1)]
              simp
            rw [decide_eq_true i1]
            refine ⟨_, rfl, ifF rfl ?_⟩
            rw [← ef]
            exact q _ ((s1.trans s2).trans s3)
          · rw [decide_eq_false i1]
            refine ⟨_, rfl, ifT rfl ?_⟩
            walk_at "go"
            intro D4 H4 hD4 h4 s4
            refine ⟨D4, _, rfl, .inl (SqL.of h4), rfl, flat_strs1 _, ?_⟩
            rw [if_pos rfl, in_strs]
            have ef : fitsP (L.map (·.2)) p = !decide (p.far ∈ L.map fun e => e.2.word 1) := by
              unfold fitsP
              rw [decide_eq_true e6, en, ef0, decide_eq_true (show p.near ∉ (L.map (·.2)).map (·.near) by rw [List.map_map]; exact i1), List.map_map]
              show (true && true && true && true && decide (p.far ∉ L.map fun e => e.2.word 1)) = _
              simp
            rw [← ef]
            exact q _ (((s1.trans s2).trans s3).trans s4)
theorem good_fits {ps : List Pr} {i : Nat} {p : Pr} (G : Good ps) (h : ps[i]? = some p) : fitsP (ps.take i) p = true := by
  have hm := List.mem_of_getElem? h
  have hi := (List.getElem?_eq_some_iff.mp h).1
  have hsplit : ps = ps.take i ++ p :: ps.drop (i + 1) := by
    have := List.take_append_drop i ps
    rw [List.drop_eq_getElem_cons hi] at this
    rw [(List.getElem?_eq_some_iff.mp h).2] at this
    exact this.symm
  have nn := G.nn
  have nf := G.nf
  rw [hsplit, List.map_append, List.nodup_append] at nn nf
  have hl := G.len
  unfold fitsP
  rw [decide_eq_true (show (ps.take i).length ≠ 6 by rw [List.length_take]; omega), nameB_iff.mpr (G.kn p hm), nameB_iff.mpr (G.kf p hm),
    decide_eq_true (show p.near ∉ (ps.take i).map (·.near) from fun z => nn.2.2 _ z _ List.mem_cons_self rfl), decide_eq_true (show p.far ∉ (ps.take i).map (·.far) from fun z => nf.2.2 _ z _ List.mem_cons_self rfl)] <;> rfl
theorem Good.word {L : List (Addr × Pr)} (G : Good (L.map (·.2))) {s : Int} (hs : s = 0 ∨ s = 1) : (L.map fun d => d.2.word s).Nodup := by
  rcases hs with rfl | rfl
  · have := G.nn
    rw [List.map_map] at this
    exact this
  · have := G.nf
    rw [List.map_map] at this
    exact this
end
end Pf
set_option Elab.async false
set_option linter.all false
set_option maxRecDepth 100000
set_option maxHeartbeats 4000000
namespace Pf
open PySem L2
local macro_rules | `(tactic| walk_at "nz") => `(tactic| (show (_ : Int) ≠ 0; omega))
local macro_rules | `(tactic| walk_at "ne") => `(tactic| first | assumption | (apply Ne.symm; assumption))
local macro_rules | `(tactic| walk_at "hp") => `(tactic| first | assumption | exact upd_same | (refine upd_get ?_ ?_; walk_at "ne"; walk_at "hp"))
local macro_rules | `(tactic| walk_at "sd") => `(tactic| first
  | (with_reducible show (_ : Int) < _; omega)
  | (with_reducible show (_ : Int) ≤ _; omega)
  | (with_reducible show (_ : Nat) < _; omega)
  | (with_reducible show (_ : Nat) ≤ _; omega)
  | rfl
  | assumption
  | exact kV_int _
  | exact kV_str _
  | (show (_ : Int) ≠ 0; omega)
  | exact SqL.of (by walk_at "hp")
  | exact ⟨_, SqL.of (by walk_at "hp")⟩
  | exact ⟨_, SqT.of (by walk_at "hp")⟩
  | exact ⟨_, (by assumption)⟩
  | exact SqT.of (by walk_at "hp")
  | exact Rd.of (by walk_at "hp")
  | exact Or.inl (SqL.of (by walk_at "hp"))
  | exact Or.inr (SqT.of (by walk_at "hp"))
  | exact Or.inr (by assumption)
  | (walk_at "hp")
  | (exact Or.inl ⟨rfl, _, SqL.of (by walk_at "hp")⟩)
  | (exact Or.inl ⟨by omega, by omega⟩)
  | (exact Or.inr ⟨by omega, by omega⟩)
  | (refine ⟨?_, ?_, ?_⟩ <;> omega)
  | omega
  | (exact small_le (by first | omega | (simp only [List.length_cons, List.length_nil]; omega)))
  | (exact small_lt (by first | omega | (simp only [List.length_cons, List.length_nil]; omega)))
  | exact Nat.le_of_ble_eq_true rfl
  | exact ⟨_, rfl⟩
  | decide)
local macro_rules | `(tactic| walk_at "st") => `(tactic| first
  | with_reducible refine sq_seq ?_
  | apply Exists.intro
  | (refine And.intro ?_ ?_; (walk_at "sd")))
local macro_rules | `(tactic| walk_at "go") => `(tactic| repeat (walk_at "st"))
section
variable {P : Program} {w : World} {K : PySem.W.Frag} {mg : Str → Option Value} {base : Heap} {a : Ad}
/-! ### helpers -/
structure Hl where
  name : Str
  side : Int
  takes : List Str
  gives : Bool
  throws : List Str
/-- tuples stay -/
def TK (H H' : Hp) : Prop := ∀ t, (∀ ys, H t = some (.tup ys) → H' t = some (.tup ys)) ∧ ∀ o ys, H t = some (.frz o (.tup ys)) → H' t = some (.frz o (.tup ys))
theorem TK.rfl {H : Hp} : TK H H := fun _ => ⟨fun _ e => e, fun _ _ e => e⟩
theorem TK.trans {H H1 H2 : Hp} (x : TK H H1) (y : TK H1 H2) : TK H H2 := fun t => ⟨fun ys e => (y t).1 ys ((x t).1 ys e), fun o ys e => (y t).2 o ys ((x t).2 o ys e)⟩
theorem TK.same {H H' : Hp} (s : Same H H') : TK H H' := fun t => ⟨fun _ e => s _ _ e, fun _ _ e => s _ _ e⟩
/-- no tuple -/
def noT : HO → Prop
  | .tup _ => False
  | .frz _ (.tup _) => False
  | _ => True
theorem TK.of {H H' : Hp} (h : ∀ t o, H t = some o → ¬ noT o → H' t = some o) : TK H H' := fun t => ⟨fun ys e => h _ _ e (fun z => z), fun o ys e => h _ _ e (fun z => z)⟩
theorem TK.upd {H : Hp} {D : Addr} {u o : HO} (h : H D = some u) (hn : noT u) : TK H (upd H D o) := TK.of fun t v e n => upd_get (fun z => by
  subst z
  rw [h] at e
  cases e
  exact n hn) e
theorem TK.lst {H : Hp} {D : Addr} {xs : List V} {o : HO} (h : H D = some (.lst xs)) : TK H (L2.upd H D o) := TK.upd h True.intro
theorem TK.dK {H : Hp} {D : Addr} {xs : List (Key × V)} {o : HO} (h : H D = some (.dK xs)) : TK H (L2.upd H D o) := TK.upd h True.intro
theorem TK.ins {H : Hp} {D C dx : Addr} {fs : List (Str × V)} {o : HO} (h : H D = some (.ins C dx fs)) : TK H (L2.upd H D o) := TK.upd h True.intro
theorem TK.new {H : Hp} {D : Addr} {o : HO} (h : H D = none) : TK H (L2.upd H D o) := TK.same (Same.upd_new h)
theorem BoxAt.tk {H H' : Hp} {b g l : Addr} {n : Int} (B : BoxAt H b g l n) (k : Keep2 b g H H') : TK H H' := TK.of fun t o e nt => by
  obtain ⟨⟨_, h1⟩, ⟨_, h2⟩, _⟩ := B.lists
  refine k _ _ (fun z => ?_) (fun z => ?_) e
  · subst z
    rw [h1] at e
    cases e
    exact nt True.intro
  · subst z
    rw [h2] at e
    cases e
    exact nt True.intro
theorem TK.sq {K : PySem.W.Frag} {H H' : Hp} {a : Addr} {xs : List V} (k : TK H H') (h : SqT K H a xs) : SqT K H' a xs := by
  rcases h with (h | ⟨o, h⟩) | h
  · exact .inl (.inl ((k _).1 _ h))
  · exact .inl (.inr ⟨o, (k _).2 _ _ h⟩)
  · exact .inr h
theorem TK.pairs {H H' : Hp} {D : Addr} {L : List (Addr × Pr)} (k : TK H H') (h : PairsAt H D L) (kd : ∀ o, H D = some o → H' D = some o) : PairsAt H' D L := h.keep kd fun t ys e => (k t).1 ys e
def HlAt (K : PySem.W.Frag) (H : Hp) (e : Addr × Hl) : Prop := ∃ tk th : Addr, H e.1 = some (.tup [.str e.2.name, .int e.2.side, .ref tk, .bl e.2.gives, .ref th]) ∧ SqT K H tk (e.2.takes.map V.str) ∧ SqT K H th (e.2.throws.map V.str)
theorem HlAt.tk {K : PySem.W.Frag} {H H' : Hp} {e : Addr × Hl} (k : TK H H') (h : HlAt K H e) : HlAt K H' e := by
  obtain ⟨tk, th, h1, h2, h3⟩ := h
  exact ⟨tk, th, (k _).1 _ h1, k.sq h2, k.sq h3⟩
structure HelpersAt (K : PySem.W.Frag) (H : Hp) (D : Addr) (M : List (Addr × Hl)) : Prop where
  ls : H D = some (.lst (M.map fun e => V.ref e.1))
  at_ : ∀ e ∈ M, HlAt K H e
theorem HelpersAt.tk {K : PySem.W.Frag} {H H' : Hp} {D : Addr} {M : List (Addr × Hl)} (h : HelpersAt K H D M) (k : TK H H') (kd : ∀ o, H D = some o → H' D = some o) : HelpersAt K H' D M := ⟨kd _ h.ls, fun e he => (h.at_ e he).tk k⟩
theorem HelpersAt.same {K : PySem.W.Frag} {H H' : Hp} {D : Addr} {M : List (Addr × Hl)} (h : HelpersAt K H D M) (k : Same H H') : HelpersAt K H' D M := h.tk (TK.same k) fun o e => k _ _ e
theorem erase_perm {α : Type} : ∀ {l : List α} {k : Nat} {z : α}, l[k]? = some z → (z :: l.eraseIdx k).Perm l
  | [], _, _, h => by simp at h
  | a :: r, 0, z, h => by
    have e : a = z := by simpa using h
    rw [e]
    exact List.Perm.refl _
  | a :: r, k + 1, z, h => by
    have h1 : r[k]? = some z := by simpa using h
    exact (List.Perm.swap a z _).trans ((erase_perm h1).cons a)
theorem erase_map {α β : Type} (f : α → β) : ∀ (l : List α) (k : Nat), (l.map f).eraseIdx k = (l.eraseIdx k).map f
  | [], _ => rfl
  | _ :: _, 0 => rfl
  | a :: r, k + 1 => congrArg (f a :: ·) (erase_map f r k)
/-! ### _law_some -/
def spSome : Sp := fun vs H Q _ => ∃ (b g l D : Addr) (n m : Int) (ws : List Str), vs = [.ref b, .ref D, .int m] ∧ BoxAt H b g l n ∧ n ≤ 800000 ∧ 0 ≤ m ∧ m ≤ 100 ∧ H D = some (.lst (ws.map V.str)) ∧ ws.length ≤ 1000 ∧
  ∀ (R : Addr) (zs rs : List Str) (n' : Int) (H' : Hp), (zs ++ rs).Perm ws → (zs.length : Int) ≤ m → H R = none → H' R = some (.lst (zs.map V.str)) → BoxAt H' b g l n' → n' ≤ n + 1 + m → Keep2 b g H H' → Q (.ref R) H'
theorem ok__law_some (T : Txt K mg a) : FnOk P w K mg base CX0 3 a.f__law_some a.d__law_some ["_law_box_here", "_law_things", "_law_most"] spSome := by
  have G__law_take := ok__law_take (P := P) (w := w) (base := base) T
  have cl_Pacts := T.cl_Pacts
  have na_Pacts_kept_pairs := T.na_Pacts_kept_pairs
  have na_Pacts_kept_pacts := T.na_Pacts_kept_pacts
  refine T.F__law_some.ok sc__law_some (fun vs H Q E h => ?_) (fun cdv A outer s H vs Q E hr h => ?_)
  · obtain ⟨b, g, l, D, n, m, ws, rfl, _⟩ := h
    rfl
  · obtain ⟨b, g, l, D, n, m, ws, rfl, B, hn, m0, m1, hD, hl, q⟩ := h
    have lw : (ws.map V.str).length = ws.length := List.length_map _
    refine ⟨_, (pss_cons (ps_set (i := 3) sc__law_some.nd rfl (Or.inr rfl) (pe_callTy call_list_of (by rfl) T.z_list (by decide +kernel) (pa_cons (pv 1) pa_nil)))
      (pss_one (ps_ret (pe_lc (own := [("_law_k", 4)]) (g := gName 4) (tt := tYes) (te := (tBM K "list" _ _ (tCons (tCall _ _ _ (tCons _ (tCons (tCB (rLenK K) _) tNil))) tNil))) rfl sc__law_some.nd (pi_range1 rfl T.z_range (pa_cons (pe_call G__law_take (hr.mono (by decide)) rfl T.m__law_take T.F__law_take.kp T.b__law_take .nil pass0 (pa_cons (pv 0) (pa_cons (pe_op op_add (pe_callB (call_min2 rfl) (by rfl) T.z_min (by decide +kernel) (pa_cons (pv 2) (pa_cons (pe_callB call_lenK (by rfl) T.z_len PySem.boot_len (pa_cons (pv 3) pa_nil)) pa_nil))) pe_int) pa_nil))) pa_nil)) (blkOk_by (own := [("_law_k", 4)]) (N := n__law_some) (sc := defScope s__law_some) (by decide +kernel)) (fun _ _ _ _ _ => (pg_name (i := 4) sc__law_some.nd rfl (Or.inl rfl))) (fun _ _ _ _ _ => pts_nil) (fun _ _ _ _ _ => (pe_bm PySem.F.plainAttrs_list PySem.F.slot_list_pop PySem.F.type_list_pop mt_popAt (pv 3) (pa_cons (pe_call G__law_take (hr.mono (by decide)) rfl T.m__law_take T.F__law_take.kp T.b__law_take .nil pass0 (pa_cons (pv 0) (pa_cons (pe_callB call_lenK (by rfl) T.z_len PySem.boot_len (pa_cons (pv 3) pa_nil)) pa_nil))) pa_nil))))))), ?_⟩
    walk_at "go"
    intro P hP
    have nP := B.fresh hP
    have s1 : Same H (upd H P (.lst (ws.map V.str))) := Same.upd_new hP
    have B1 := B.same s1
    obtain ⟨H1, e1⟩ : ∃ H1, H1 = upd H P (.lst (ws.map V.str)) := ⟨_, rfl⟩
    rw [← e1] at s1 B1 ⊢
    have hP1 : H1 P = some (.lst (ws.map V.str)) := by rw [e1, upd_same]
    walk_at "go"
    intro r2 H2 r20 r21 B2 k2
    have r2m : r2 ≤ m ∧ r2 ≤ (ws.length : Int) := by
      rw [lw] at r21
      split at r21 <;> omega
    have hP2 := k2 _ _ nP.1 nP.2.1 hP1
    walk_at "go"
    intro R hR
    have nR := B2.fresh hR
    have nPR : P ≠ R := ne_of_none hP2 hR
    refine lcR (lo := 0) (n := r2.toNat) (fun i H' => ∃ zs ps : List Str, zs.length = i ∧ (zs ++ ps).Perm ws ∧ H' R = some (.lst (zs.map V.str)) ∧ H' P = some (.lst (ps.map V.str)) ∧ BoxAt H' b g l (n + 1 + i) ∧ ∀ x o, x ≠ b → x ≠ g → x ≠ R → x ≠ P → H2 x = some o → H' x = some o) ?_ ?_ ?_
    · exact ⟨[], ws, rfl, List.Perm.refl _, upd_same, upd_get nPR hP2, by rw [show n + 1 + ((0 : Nat) : Int) = n + 1 by omega]; exact B2.upd nR, fun x o _ _ a3 _ e => upd_get a3 e⟩
    · rintro i H' hi ⟨zs, ps, hzl, pm, hR3, hP3, B3, k3⟩
      have hpl := pm.length_eq
      rw [List.length_append] at hpl
      have lp : (ps.map V.str).length = ps.length := List.length_map _
      refine ⟨rfl, _, rfl, Or.inl ⟨rfl, _, SqL.of hP3⟩, _, rfl, _, rfl, P, _, rfl, .inl (SqL.of hP3), b, g, l, _, _, rfl, B3, by omega, by omega, by omega, fun r4 H4 r40 r41 B4 k4 => ?_⟩
      have hP4 := k4 _ _ nP.1 nP.2.1 hP3
      have hR4 := k4 _ _ nR.1 nR.2.1 hR3
      have hlt : r4.toNat < ps.length := by omega
      obtain ⟨z, hz⟩ : ∃ z, ps[r4.toNat]? = some z := ⟨_, List.getElem?_eq_getElem hlt⟩
      have hzv : (ps.map V.str)[r4.toNat]? = some (.str z) := by rw [List.getElem?_map, hz] <;> rfl
      have hsi : seqIndex? r4 (ps.map V.str).length = some r4.toNat := seqIndex_of r40 (by rw [lp]; omega)
      walk_at "go"
      refine ⟨small_lt (by rw [List.length_map]; omega), wait ⟨zs ++ [z], ps.eraseIdx r4.toNat, by rw [List.length_append, hzl] <;> rfl, ?_, ?_, ?_, ?_, fun x o a1 a2 a3 a4 e => upd_get a3 (upd_get a4 (k4 x o a1 a2 (k3 x o a1 a2 a3 a4 e)))⟩⟩
      · rw [List.append_assoc]
        exact ((erase_perm hz).append_left zs).trans pm
      · rw [upd_same, List.map_append] <;> rfl
      · rw [upd_ne nPR, upd_same, erase_map]
      · rw [show n + 1 + ((i + 1 : Nat) : Int) = n + 1 + (i : Int) + 1 by omega]
        exact (B4.upd nP).upd nR
    · rintro H' ⟨zs, ps, hzl, pm, hR3, hP3, B3, k3⟩
      refine q R zs ps _ _ pm (by omega) ?_ hR3 B3 (by omega) fun x o a1 a2 e => ?_
      · cases y : H R with
        | none => rfl
        | some o => rw [k2 _ _ nR.1 nR.2.1 (s1 _ _ y)] at hR; cases hR
      · have e2 := k2 x o a1 a2 (s1 _ _ e)
        exact k3 x o a1 a2 (ne_of_none e2 hR) (ne_of_none e hP) e2
/-! ### _law_helpers -/
theorem same_none' {H H' : Hp} {r : Addr} (s : Same H H') (h : H' r = none) : H r = none := by
  cases z : H r with
  | none => rfl
  | some o => rw [s r o z] at h; cases h
def hows : List Str := ["lent", "given"]
/-- what a helper that the law draws is like -/
structure HOk (ps : List Pr) (h : Hl) : Prop where
  sd : h.side = 0 ∨ h.side = 1
  tl : h.takes.length ≤ 3
  tk : ∀ w ∈ h.takes, w ∈ hows
  hl : h.throws.length ≤ 4
  hn : h.throws.Nodup
  hw : ∀ w ∈ h.throws, w ∈ ps.map (·.word h.side)
structure GoodH (ps : List Pr) (hs : List Hl) : Prop where
  ok : ∀ h ∈ hs, HOk ps h
  nd : (hs.map (·.name)).Nodup
  nm : ∀ h ∈ hs, IsName h.name
  few : ∀ s : Int, (hs.filter fun h => decide (h.side = s)).length ≤ 4
  len : hs.length ≤ 8
def spHelpers (K : PySem.W.Frag) : Sp := fun vs H Q _ => ∃ (b g l D : Addr) (n : Int) (L : List (Addr × Pr)), vs = [.ref b, .ref D] ∧ BoxAt H b g l n ∧ n ≤ 600000 ∧ D ≠ b ∧ D ≠ g ∧ PairsAt H D L ∧ Good (L.map (·.2)) ∧
  ∀ (F : Addr) (M : List (Addr × Hl)) (n' : Int) (H' : Hp), GoodH (L.map (·.2)) (M.map (·.2)) → H F = none → HelpersAt K H' F M → BoxAt H' b g l n' → n' ≤ n + 400 → Keep2 b g H H' → Q (.ref F) H'
/-- what stands while the helpers are drawn -/
structure HInv (K : PySem.W.Frag) (H0 H : Hp) (b g l F N D : Addr) (n : Int) (L : List (Addr × Pr)) (ws : List Str) (M : List (Addr × Hl)) (ns : List Str) (k0 k1 : Int) : Prop where
  box : BoxAt H b g l n
  hs : HelpersAt K H F M
  nm : H N = some (.lst (ns.map V.str))
  pm : (M.map (fun e => e.2.name) ++ ns).Perm ws
  ok : ∀ e ∈ M, HOk (L.map (·.2)) e.2
  c0 : ((M.filter fun e => decide (e.2.side = 0)).length : Int) = k0
  c1 : ((M.filter fun e => decide (e.2.side = 1)).length : Int) = k1
  len : (M.length : Int) = k0 + k1
  kp : ∀ x o, x ≠ b → x ≠ g → x ≠ F → x ≠ N → H0 x = some o → H x = some o
theorem ok__law_helpers (T : Txt K mg a) : FnOk P w K mg base CX0 5 a.f__law_helpers a.d__law_helpers ["_law_box_here", "_law_pairs_here"] (spHelpers K) := by
  have G__law_names := ok__law_names (P := P) (w := w) (base := base) T
  have G__law_take := ok__law_take (P := P) (w := w) (base := base) T
  have G__law_some := ok__law_some (P := P) (w := w) (base := base) T
  have cl_Pacts := T.cl_Pacts
  have na_Pacts_kept_pairs := T.na_Pacts_kept_pairs
  have na_Pacts_kept_pacts := T.na_Pacts_kept_pacts
  refine T.F__law_helpers.ok sc__law_helpers (fun vs H Q E h => ?_) (fun cdv A outer s H vs Q E hr h => ?_)
  · obtain ⟨b, g, l, D, n, L, rfl, _⟩ := h
    rfl
  · obtain ⟨b, g, l, D, n, L, rfl, B, hn, nDb, nDg, PP, G, q⟩ := h
    refine ⟨_, (pss_cons (ps_set (i := 2) sc__law_helpers.nd rfl (Or.inl rfl) (pe_call G__law_names (hr.mono (by decide)) rfl T.m__law_names T.F__law_names.kp T.b__law_names .nil pass0 (pa_cons (pv 0) (pa_cons pe_int pa_nil))))
      (pss_cons (ps_set (i := 3) sc__law_helpers.nd rfl (Or.inl rfl) (pe_lst (pa_cons (pe_call G__law_take (hr.mono (by decide)) rfl T.m__law_take T.F__law_take.kp T.b__law_take .nil pass0 (pa_cons (pv 0) (pa_cons pe_int pa_nil))) (pa_cons (pe_call G__law_take (hr.mono (by decide)) rfl T.m__law_take T.F__law_take.kp T.b__law_take .nil pass0 (pa_cons (pv 0) (pa_cons pe_int pa_nil))) pa_nil))))
      (pss_cons (ps_set (i := 4) sc__law_helpers.nd rfl (Or.inl rfl) (pe_lst pa_nil))
      (pss_cons (ps_stop (ps_for PassesOwn.never rfl (pi_wait (pi_range1 rfl T.z_range (pa_cons pe_int pa_nil))) (pg_name (i := 5) sc__law_helpers.nd rfl (Or.inr rfl)) (pss_one (ps_stop (ps_for PassesOwn.never rfl (pi_wait (pi_range1 rfl T.z_range (pa_cons (pe_ix ix_list (pv 3) (pv 5) (fun _ _ => rfl)) pa_nil))) (pg_name (i := 6) sc__law_helpers.nd rfl (Or.inl rfl)) (pss_cons (ps_set (i := 7) sc__law_helpers.nd rfl (Or.inl rfl) (pe_callTy call_tuple_of (by rfl) T.z_tuple (by decide +kernel) (pa_cons (pe_lc (own := [("_law_j", 10)]) (g := gName 10) (tt := tYes) (te := (tOp (rIxL K) _ _)) rfl sc__law_helpers.nd (pi_range1 rfl T.z_range (pa_cons (pe_call G__law_take (hr.mono (by decide)) rfl T.m__law_take T.F__law_take.kp T.b__law_take .nil pass0 (pa_cons (pv 0) (pa_cons pe_int pa_nil))) pa_nil)) (blkOk_by (own := [("_law_j", 10)]) (N := n__law_helpers) (sc := defScope s__law_helpers) (by decide +kernel)) (fun _ _ _ _ _ => (pg_name (i := 10) sc__law_helpers.nd rfl (Or.inl rfl))) (fun _ _ _ _ _ => pts_nil) (fun _ _ _ _ _ => (pe_ix ix_list (pe_lst (pa_cons pe_str (pa_cons pe_str pa_nil))) (pe_call G__law_take (hr.mono (by decide)) rfl T.m__law_take T.F__law_take.kp T.b__law_take .nil pass0 (pa_cons (pv 0) (pa_cons pe_int pa_nil))) (fun _ _ => rfl)))) pa_nil)))
      (pss_cons (ps_set (i := 8) sc__law_helpers.nd rfl (Or.inl rfl) (pe_callTy call_tuple_of (by rfl) T.z_tuple (by decide +kernel) (pa_cons (pe_call G__law_some (hr.mono (by decide)) rfl T.m__law_some T.F__law_some.kp T.b__law_some .nil pass0 (pa_cons (pv 0) (pa_cons (pe_lc (own := [("_law_pair", 11)]) (g := gName 11) (tt := tYes) (te := (tOp (rIxT K) _ _)) rfl sc__law_helpers.nd (pi_list (pv 1)) (blkOk_by (own := [("_law_pair", 11)]) (N := n__law_helpers) (sc := defScope s__law_helpers) (by decide +kernel)) (fun _ _ _ _ _ => (pg_name (i := 11) sc__law_helpers.nd rfl (Or.inl rfl))) (fun _ _ _ _ _ => pts_nil) (fun _ _ _ _ _ => (pe_ix ix_tup (pv 11) (pv 5) (fun _ _ => rfl)))) (pa_cons pe_int pa_nil)))) pa_nil)))
      (pss_cons (ps_set (i := 9) sc__law_helpers.nd rfl (Or.inl rfl) (pe_tup (pa_cons (pe_bm0 PySem.F.plainAttrs_list PySem.F.slot_list_pop PySem.F.type_list_pop mt_pop (pv 2)) (pa_cons (pv 5) (pa_cons (pv 7) (pa_cons (pe_cmpR op_eq (pe_call G__law_take (hr.mono (by decide)) rfl T.m__law_take T.F__law_take.kp T.b__law_take .nil pass0 (pa_cons (pv 0) (pa_cons pe_int pa_nil))) pe_int (nomark _)) (pa_cons (pv 8) pa_nil)))))))
      (pss_one (ps_expr (pe_bm PySem.F.plainAttrs_list PySem.F.slot_list_insert PySem.F.type_list_insert mt_insert (pv 4) (pa_cons (pe_call G__law_take (hr.mono (by decide)) rfl T.m__law_take T.F__law_take.kp T.b__law_take .nil pass0 (pa_cons (pv 0) (pa_cons (pe_op op_add (pe_callB call_lenK (by rfl) T.z_len PySem.boot_len (pa_cons (pv 4) pa_nil)) pe_int) pa_nil))) (pa_cons (pv 9) pa_nil)))))))))))))
      (pss_one (ps_ret (pv 4))))))), ?_⟩
    walk_at "go"
    intro N ws n1 H1 hw1 nd1 nm1 hN hN1 B1 hb1 k1
    have nN := B.fresh hN
    walk_at "go"
    intro c0 H2 c00 c01 B2 k2
    walk_at "go"
    intro c1 H3 c10 c11 B3 k3
    walk_at "go"
    intro Cn hCn
    have s4 : Same H3 (upd H3 Cn (.lst [.int c0, .int c1])) := Same.upd_new hCn
    have B4 := B3.same s4
    obtain ⟨H4, e4⟩ : ∃ H4, H4 = upd H3 Cn (.lst [.int c0, .int c1]) := ⟨_, rfl⟩
    rw [← e4] at s4 B4 ⊢
    have hC4 : H4 Cn = some (.lst [.int c0, .int c1]) := by rw [e4, upd_same]
    have nC := B3.fresh hCn
    walk_at "go"
    intro F hF
    have nF := B4.fresh hF
    have hN4 : H4 N = some (.lst (ws.map V.str)) := s4 _ _ (k3 _ _ nN.1 nN.2.1 (k2 _ _ nN.1 nN.2.1 hN1))
    have nFN : N ≠ F := ne_of_none hN4 hF
    have nFC : Cn ≠ F := ne_of_none hC4 hF
    have nNC : N ≠ Cn := ne_of_none (k3 _ _ nN.1 nN.2.1 (k2 _ _ nN.1 nN.2.1 hN1)) hCn
    have PP4 : PairsAt H4 D L := by
      refine TK.pairs (((B.tk k1).trans (B1.tk k2)).trans ((B2.tk k3).trans (TK.same s4))) PP fun o e => s4 _ _ (k3 _ _ nDb nDg (k2 _ _ nDb nDg (k1 _ _ nDb nDg e)))
    have nDF : D ≠ F := ne_of_none PP4.ls hF
    have nDN : D ≠ N := ne_of_none PP.ls hN
    refine sq_seq (stop_in ?_)
    walk_at "go"
    refine wait ?_
    refine forR (lo := 0) (n := 2) (fun i σ H' => (∃ u5 u6 u7 u8 u9, σ = [some (.ref b), some (.ref D), some (.ref N), some (.ref Cn), some (.ref F), u5, u6, u7, u8, u9, none, none]) ∧
      ∃ M ns n', HInv K H4 H' b g l F N D n' L ws M ns (if 1 ≤ i then c0 else 0) (if 2 ≤ i then c1 else 0) ∧ n' ≤ n1 + 2 + 50 * i) ?_ ?_ ?_
    · refine ⟨⟨_, _, _, _, _, rfl⟩, [], ws, n1 + 1 + 1, ⟨B4.upd nF, ⟨upd_same, fun _ h => nomatch h⟩, upd_get nFN hN4, List.Perm.refl _, (fun _ h => nomatch h), rfl, rfl, rfl, fun x o _ _ a3 _ e => upd_get a3 e⟩, by omega⟩
    · rintro i σ H5 hi ⟨⟨u5, u6, u7, u8, u9, rfl⟩, M, ns, n5, I5, hn5⟩
      have hC5 := I5.kp _ _ nC.1 nC.2.1 nFC (Ne.symm nNC) hC4
      obtain ⟨sd, esd⟩ : ∃ sd : Int, sd = 0 + (i : Int) := ⟨_, rfl⟩
      have hsd : sd = 0 ∨ sd = 1 := by omega
      obtain ⟨cs, hcs, cs0, cs4, ecs⟩ : ∃ cs : Int, atI [V.int c0, .int c1] sd = some (.int cs) ∧ 0 ≤ cs ∧ cs ≤ 4 ∧ cs = (if sd = 0 then c0 else c1) := by
        rcases hsd with e | e
        · rw [e]; exact ⟨c0, rfl, c00, by omega, rfl⟩
        · rw [e]; exact ⟨c1, rfl, c10, by omega, rfl⟩
      rw [← esd]
      refine stop_in ?_
      walk_at "go"
      refine wait ?_
      refine forR (lo := 0) (n := cs.toNat) (fun j σ H' => (∃ u6 u7 u8 u9, σ = [some (.ref b), some (.ref D), some (.ref N), some (.ref Cn), some (.ref F), some (.int sd), u6, u7, u8, u9, none, none]) ∧
        ∃ M ns n', HInv K H4 H' b g l F N D n' L ws M ns (if sd = 0 then (j : Int) else c0) (if sd = 0 then 0 else (j : Int)) ∧ n' ≤ n5 + 12 * j) ?_ ?_ ?_
      · refine ⟨⟨_, _, _, _, rfl⟩, M, ns, n5, ?_, by omega⟩
        rcases hsd with e | e
        · have ei : i = 0 := by omega
          subst ei
          rw [if_pos e, if_pos e]
          exact I5
        · have ei : i = 1 := by omega
          subst ei
          rw [if_neg (by omega), if_neg (by omega)]
          exact I5
      · rintro j σ H6 hj ⟨⟨u6', u7', u8', u9', rfl⟩, M6, ns6, n6, I6, hn6⟩
        clear I5
        have B6 := I6.box
        have hj4 : j < 4 := by omega
        have hnb : n6 ≤ 700000 := by omega
        walk_at "go"
        intro r7 H7 r70 r71 B7 k7
        walk_at "go"
        intro R hR
        have nR := B7.fresh hR
        refine lcR (lo := 0) (n := r7.toNat) (fun i H' => ∃ ts : List Str, ts.length = i ∧ (∀ w ∈ ts, w ∈ hows) ∧ H' R = some (.lst (ts.map V.str)) ∧ BoxAt H' b g l (n6 + 1 + i) ∧ ∀ x o, x ≠ b → x ≠ g → x ≠ R → H7 x = some o → H' x = some o) ?_ ?_ ?_
        · exact ⟨[], rfl, (fun _ h => nomatch h), upd_same, by rw [show n6 + 1 + ((0 : Nat) : Int) = n6 + 1 by omega]; exact B7.upd nR, fun x o _ _ a3 e => upd_get a3 e⟩
        · rintro i' H8 hi8 ⟨ts, htl, hts, hR8, B8, k8⟩
          refine ⟨rfl, ?_⟩
          walk_at "go"
          intro p9 hp9
          have s9 : Same H8 (upd H8 p9 (.lst [.str "lent", .str "given"])) := Same.upd_new hp9
          have B9 := B8.same s9
          have n9 := B8.fresh hp9
          refine ⟨_, rfl, b, g, l, _, 2, rfl, B9, by omega, by decide, by decide, fun r10 H10 r100 r101 B10 k10 => ?_⟩
          have hp10 := k10 _ _ n9.1 n9.2.1 upd_same
          obtain ⟨v, e1, e2⟩ := atI_in (xs := [V.str "lent", .str "given"]) (i := r10) r100 r101
          obtain ⟨z, rfl, hz⟩ : ∃ z : Str, v = .str z ∧ z ∈ hows := by
            have hm := List.mem_of_getElem? e2
            simp only [List.mem_cons, List.not_mem_nil, or_false] at hm
            rcases hm with rfl | rfl
            · exact ⟨_, rfl, List.mem_cons_self⟩
            · exact ⟨_, rfl, List.mem_cons_of_mem _ List.mem_cons_self⟩
          have hR10 := k10 _ _ nR.1 nR.2.1 (s9 _ _ hR8)
          walk_at "go"
          refine ⟨small_lt (by rw [List.length_map]; omega), wait ⟨ts ++ [z], by rw [List.length_append, htl] <;> rfl, ?_, ?_, ?_, fun x o a1 a2 a3 e => upd_get a3 (k10 x o a1 a2 (s9 _ _ (k8 x o a1 a2 a3 e)))⟩⟩
          · intro w hw
            rcases List.mem_append.mp hw with y | y
            · exact hts w y
            · rw [List.mem_singleton.mp y]; exact hz
          · rw [upd_same, List.map_append] <;> rfl
          · rw [show n6 + 1 + ((i' + 1 : Nat) : Int) = n6 + 1 + (i' : Int) + 1 by omega]
            exact B10.upd nR
        · rintro H8 ⟨ts, htl, hts, hR8, B8, k8⟩
          have hts3 : ts.length ≤ 3 := by omega
          refine ⟨R, _, rfl, .inl ⟨SqL.of hR8, fun tk htk => ?_⟩⟩
          have s9 : Same H8 (upd H8 tk (.tup (ts.map V.str))) := Same.upd_new htk
          obtain ⟨H9, e9⟩ : ∃ H9, H9 = upd H8 tk (.tup (ts.map V.str)) := ⟨_, rfl⟩
          rw [← e9] at s9 ⊢
          have htk9 : H9 tk = some (.tup (ts.map V.str)) := by rw [e9, upd_same]
          have B9 := B8.same s9
          have k69 : ∀ x o, x ≠ b → x ≠ g → H6 x = some o → H9 x = some o := fun x o a1 a2 e => by
            have e7 := k7 x o a1 a2 e
            exact s9 _ _ (k8 x o a1 a2 (ne_of_none e7 hR) e7)
          have PP9 : PairsAt H9 D L := by
            have P6 : PairsAt H6 D L := PP4.keep (fun o e => I6.kp _ _ nDb nDg nDF nDN e) fun t ys e => I6.kp _ _ (ne_of e B4.lists.1.choose_spec (by intro z; cases z)) (ne_of e B4.lists.2.1.choose_spec (by intro z; cases z)) (ne_of_none e hF) (ne_of e hN4 (by intro z; cases z)) e
            exact P6.keep (fun o e => k69 _ _ nDb nDg e) (B6.tups k69)
          have ls9 := PP9.ls
          walk_at "go"
          intro Z hZ
          have nZ := B9.fresh hZ
          refine lcL (K := K) (a := D) (xs := L.map fun e => V.ref e.1) (fun i H' => H' Z = some (.lst (((L.take i).map fun e => e.2.word sd).map V.str)) ∧ Same H9 H') ?_ ?_ ?_ ?_
          · exact ⟨upd_same, Same.upd_new hZ⟩
          · exact fun i H' _ h => SqL.of (h.2 _ _ ls9)
          · rintro i' y H' hi' ⟨g1, g2⟩
            rw [List.getElem?_map] at hi'
            obtain ⟨e, he, rfl⟩ := Option.map_eq_some_iff.mp hi'
            have hp : H' e.1 = _ := g2 _ _ (PP9.at_ e (List.mem_of_getElem? he))
            have hlt := (List.getElem?_eq_some_iff.mp he).1
            have hat := pr_at e.2 hsd
            have gl := G.len
            rw [List.length_map] at gl
            refine ⟨rfl, ?_⟩
            walk_at "go"
            refine ⟨small_lt (by rw [List.length_map, List.length_map, List.length_take]; omega), wait ⟨?_, fun x o e => upd_get (ne_of_none e hZ) (g2 x o e)⟩⟩
            rw [upd_same, List.take_add_one, he, List.map_append, List.map_append] <;> rfl
          · rintro H10 ⟨g1, g2⟩
            rw [List.length_map, List.take_length] at g1
            have gl := G.len
            rw [List.length_map] at gl
            have B10 := B9.same g2
            have lw : (L.map fun e => e.2.word sd).length ≤ 1000 := by rw [List.length_map]; omega
            walk_at "go"
            intro R2 zs rs n11 H11 pz hz4 hR2 hR211 B11 hn11 k11
            refine ⟨R2, _, rfl, .inl ⟨SqL.of hR211, fun th hth => ?_⟩⟩
            have s12 : Same H11 (upd H11 th (.tup (zs.map V.str))) := Same.upd_new hth
            obtain ⟨H12, e12⟩ : ∃ H12, H12 = upd H11 th (.tup (zs.map V.str)) := ⟨_, rfl⟩
            rw [← e12] at s12 ⊢
            have hth12 : H12 th = some (.tup (zs.map V.str)) := by rw [e12, upd_same]
            have B12 := B11.same s12
            have k612 : ∀ x o, x ≠ b → x ≠ g → H6 x = some o → H12 x = some o := fun x o a1 a2 e => s12 _ _ (k11 x o a1 a2 (g2 _ _ (k69 x o a1 a2 e)))
            have htk12 : H12 tk = some (.tup (ts.map V.str)) := s12 _ _ (B10.tups k11 _ _ (g2 _ _ htk9))
            have hN12 := k612 _ _ nN.1 nN.2.1 I6.nm
            have hF12 := k612 _ _ nF.1 nF.2.1 I6.hs.ls
            have tk612 : TK H6 H12 := ((B6.tk k69).trans (TK.same g2)).trans ((B10.tk k11).trans (TK.same s12))
            have hM6 : (M6.length : Int) < 8 := by
              rw [I6.len]
              rcases hsd with e | e
              · rw [if_pos e, if_pos e]; omega
              · rw [if_neg (by omega), if_neg (by omega)]; omega
            obtain ⟨ini, z, ens⟩ : ∃ ini z, ns6 = ini ++ [z] := by
              have hl6 := I6.pm.length_eq
              rw [List.length_append, List.length_map] at hl6
              have hne : ns6 ≠ [] := fun e => by rw [e] at hl6; simp at hl6; omega
              exact ⟨_, _, (List.dropLast_concat_getLast hne).symm⟩
            have hlast : (ns6.map V.str)[(ns6.map V.str).length - 1]? = some (.str z) := by
              rw [ens, List.map_append, List.length_append, List.length_map]
              simp
            have hdrop : (ns6.map V.str).dropLast = ini.map V.str := by
              rw [ens, List.map_append]
              simp
            have B13 := B12.upd (o := .lst (ns6.map V.str).dropLast) nN
            have tk13 : TK H12 (upd H12 N (.lst (ns6.map V.str).dropLast)) := TK.lst hN12
            have hF13 := upd_get (o := .lst (ns6.map V.str).dropLast) (Ne.symm nFN) hF12
            have hN13 : upd H12 N (.lst (ns6.map V.str).dropLast) N = some (.lst (ini.map V.str)) := by rw [upd_same, hdrop]
            have k13 : ∀ x o, x ≠ N → H12 x = some o → upd H12 N (.lst (ns6.map V.str).dropLast) x = some o := fun x o a e => upd_get a e
            have lm6 : (M6.map fun e => V.ref e.1).length = M6.length := List.length_map _
            walk_at "go"
            obtain ⟨H13, e13⟩ : ∃ H13, H13 = upd H12 N (.lst (ns6.map V.str).dropLast) := ⟨_, rfl⟩
            rw [← e13] at B13 tk13 hF13 hN13 k13 ⊢
            intro r14 H14 r140 r141 B14 k14
            have tk14 : TK H6 H14 := (tk612.trans tk13).trans (B13.tk k14)
            have hF14 := k14 _ _ nF.1 nF.2.1 hF13
            have hN14 := k14 _ _ nN.1 nN.2.1 hN13
            have htk14 : H14 tk = some (.tup (ts.map V.str)) := ((tk13.trans (B13.tk k14)) _).1 _ htk12
            have hth14 : H14 th = some (.tup (zs.map V.str)) := ((tk13.trans (B13.tk k14)) _).1 _ hth12
            walk_at "go"
            intro t15 ht15
            have s15 : Same H14 (upd H14 t15 (.tup [.str z, .int sd, .ref tk, .bl (decide (V.int r14 = V.int 1)), .ref th])) := Same.upd_new ht15
            obtain ⟨H15, e15⟩ : ∃ H15, H15 = upd H14 t15 (.tup [.str z, .int sd, .ref tk, .bl (decide (V.int r14 = V.int 1)), .ref th]) := ⟨_, rfl⟩
            rw [← e15] at s15 ⊢
            have B15 := B14.same s15
            have hF15 := s15 _ _ hF14
            have hnew : HlAt K H15 (t15, ⟨z, sd, ts, decide (V.int r14 = V.int 1), zs⟩) := ⟨tk, th, by rw [e15, upd_same], SqT.of (s15 _ _ htk14), SqT.of (s15 _ _ hth14)⟩
            refine ⟨_, rfl, Or.inl ⟨rfl, _, SqL.of hF15⟩, _, rfl, _, rfl, F, _, rfl, .inl (SqL.of hF15), _, _, rfl, rfl, b, g, l, _, _, rfl, B15, by omega, by omega, by omega, fun r16 H16 r160 r161 B16 k16 => ?_⟩
            have hF16 := k16 _ _ nF.1 nF.2.1 hF15
            have hN16 := k16 _ _ nN.1 nN.2.1 (s15 _ _ hN14)
            have tk16 : TK H6 H16 := (tk14.trans (TK.same s15)).trans (B15.tk k16)
            have hnew16 := hnew.tk (B15.tk k16)
            refine ⟨_, rfl, F, _, r16, _, rfl, rfl, hF16, small_lt (by omega), r160, by omega, wait ⟨⟨_, _, _, _, rfl⟩, M6.take r16.toNat ++ [(t15, ⟨z, sd, ts, decide (V.int r14 = V.int 1), zs⟩)] ++ M6.drop r16.toNat, ini, n11 + 1 + 1, ?_, ?_⟩⟩
            · have pmM : (M6.take r16.toNat ++ [(t15, (⟨z, sd, ts, decide (V.int r14 = V.int 1), zs⟩ : Hl))] ++ M6.drop r16.toNat).Perm ((t15, (⟨z, sd, ts, decide (V.int r14 = V.int 1), zs⟩ : Hl)) :: M6) := by
                have h1 : (M6.take r16.toNat ++ [(t15, (⟨z, sd, ts, decide (V.int r14 = V.int 1), zs⟩ : Hl))]).Perm ((t15, (⟨z, sd, ts, decide (V.int r14 = V.int 1), zs⟩ : Hl)) :: M6.take r16.toNat) := List.perm_append_comm
                have h2 := h1.append_right (M6.drop r16.toNat)
                rw [List.cons_append, List.take_append_drop] at h2
                exact h2
              have hset : (H16 F = some (.lst (M6.map fun e => V.ref e.1))) := hF16
              have okn : HOk (L.map (·.2)) (⟨z, sd, ts, decide (V.int r14 = V.int 1), zs⟩ : Hl) := by
                have zn : zs.Nodup := by
                  have := pz.nodup_iff.mpr (G.word hsd)
                  rw [List.nodup_append] at this
                  exact this.1
                refine ⟨hsd, hts3, hts, by have : (zs.length : Int) ≤ 4 := hz4; show zs.length ≤ 4; omega, zn, fun w hw => ?_⟩
                have := pz.mem_iff.mp (List.mem_append.mpr (.inl hw))
                rw [List.map_map]
                exact this
              refine ⟨B16.upd nF, ⟨?_, fun e he => ?_⟩, upd_get nFN hN16, ?_, fun e he => ?_, ?_, ?_, ?_, fun x o a1 a2 a3 a4 e => upd_get a3 (k16 x o a1 a2 (s15 _ _ (k14 x o a1 a2 (k13 x o a4 (k612 x o a1 a2 (I6.kp x o a1 a2 a3 a4 e))))))⟩
              · rw [upd_same, List.map_append, List.map_append, List.map_take, List.map_drop] <;> rfl
              · rcases List.mem_cons.mp (pmM.mem_iff.mp he) with y | y
                · rw [y]
                  exact hnew16.tk (TK.lst hF16)
                · exact ((I6.hs.at_ e y).tk tk16).tk (TK.lst hF16)
              · have h1 := (pmM.map fun e => e.2.name).append_right ini
                refine h1.trans ?_
                have h2 := I6.pm
                rw [ens, ← List.append_assoc] at h2
                rw [List.map_cons, List.cons_append]
                exact (List.perm_append_comm (l₁ := [z]) (l₂ := M6.map (fun e => e.2.name) ++ ini)).trans h2
              · rcases List.mem_cons.mp (pmM.mem_iff.mp he) with y | y
                · rw [y]; exact okn
                · exact I6.ok e y
              · have h1 := (pmM.filter fun e => decide (e.2.side = 0)).length_eq
                have c0 := I6.c0
                rcases hsd with e | e
                · subst e
                  rw [h1, List.filter_cons_of_pos (by simp), List.length_cons, if_pos rfl]
                  rw [if_pos rfl] at c0
                  omega
                · subst e
                  rw [h1, List.filter_cons_of_neg (by simp), if_neg (by decide)]
                  rw [if_neg (by decide)] at c0
                  omega
              · have h1 := (pmM.filter fun e => decide (e.2.side = 1)).length_eq
                have c1 := I6.c1
                rcases hsd with e | e
                · subst e
                  rw [h1, List.filter_cons_of_neg (by simp), if_pos rfl]
                  rw [if_pos rfl] at c1
                  omega
                · subst e
                  rw [h1, List.filter_cons_of_pos (by simp), List.length_cons, if_neg (by decide)]
                  rw [if_neg (by decide)] at c1
                  omega
              · have h1 := pmM.length_eq
                have ln := I6.len
                rw [h1, List.length_cons]
                rcases hsd with e | e
                · subst e
                  rw [if_pos rfl, if_pos rfl] at ln ⊢
                  omega
                · subst e
                  rw [if_neg (by decide), if_neg (by decide)] at ln ⊢
                  omega
            · omega
      · rintro σ H6 ⟨⟨u6', u7', u8', u9', rfl⟩, M6, ns6, n6, I6, hn6⟩
        refine wait ⟨⟨_, _, _, _, _, rfl⟩, M6, ns6, n6, ?_, by omega⟩
        have ecs2 : ((cs.toNat : Nat) : Int) = cs := by omega
        rw [ecs2, ecs] at I6
        rcases hsd with e | e
        · have ei : i = 0 := by omega
          subst ei
          rw [if_pos e, if_pos e, if_pos e] at I6
          exact I6
        · have ei : i = 1 := by omega
          subst ei
          rw [if_neg (by omega), if_neg (by omega), if_neg (by omega)] at I6
          exact I6
    · rintro σ H5 ⟨⟨u5, u6, u7, u8, u9, rfl⟩, M, ns, n5, I5, hn5⟩
      walk_at "go"
      have c0' : ((M.filter fun e => decide (e.2.side = 0)).length : Int) = c0 := I5.c0
      have c1' : ((M.filter fun e => decide (e.2.side = 1)).length : Int) = c1 := I5.c1
      have ln := I5.len
      have ln' : (M.length : Int) = c0 + c1 := ln
      have pnd := (I5.pm.nodup_iff.mpr nd1)
      rw [List.nodup_append] at pnd
      refine q F M n5 H5 ⟨?_, ?_, ?_, ?_, ?_⟩ ?_ I5.hs I5.box (by omega) fun x o a1 a2 e => ?_
      · intro h hh
        obtain ⟨e, he, rfl⟩ := List.mem_map.mp hh
        exact I5.ok e he
      · rw [List.map_map]
        exact pnd.1
      · intro h hh
        obtain ⟨e, he, rfl⟩ := List.mem_map.mp hh
        exact nm1 _ (I5.pm.mem_iff.mp (List.mem_append.mpr (.inl (List.mem_map.mpr ⟨e, he, rfl⟩))))
      · intro sd
        by_cases e0 : sd = 0
        · subst e0
          rw [List.filter_map, List.length_map]
          have : (M.filter fun e => decide (e.2.side = 0)).length ≤ 4 := by omega
          exact this
        · by_cases e1 : sd = 1
          · subst e1
            rw [List.filter_map, List.length_map]
            have : (M.filter fun e => decide (e.2.side = 1)).length ≤ 4 := by omega
            exact this
          · have : ((M.map (·.2)).filter fun h => decide (h.side = sd)) = [] := by
              rw [List.filter_eq_nil_iff]
              intro h hh
              obtain ⟨e, he, rfl⟩ := List.mem_map.mp hh
              have := (I5.ok e he).sd
              simp only [decide_eq_true_eq]
              omega
            rw [this]
            exact Nat.zero_le _
      · rw [List.length_map]; omega
      · exact keep_none k1 nF.1 nF.2.1 (keep_none k2 nF.1 nF.2.1 (keep_none k3 nF.1 nF.2.1 (same_none' s4 hF)))
      · have e1 := k1 x o a1 a2 e
        have e3 := s4 _ _ (k3 x o a1 a2 (k2 x o a1 a2 e1))
        exact I5.kp x o a1 a2 (ne_of_none e3 hF) (ne_of_none e hN) e3
end
end Pf
set_option Elab.async false
set_option linter.all false
set_option maxRecDepth 100000
set_option maxHeartbeats 4000000
namespace Pf
open PySem L2
local macro_rules | `(tactic| walk_at "nz") => `(tactic| (show (_ : Int) ≠ 0; omega))
local macro_rules | `(tactic| walk_at "ne") => `(tactic| first | assumption | (apply Ne.symm; assumption))
local macro_rules | `(tactic| walk_at "hp") => `(tactic| first | assumption | exact upd_same | (refine upd_get ?_ ?_; walk_at "ne"; walk_at "hp"))
local macro_rules | `(tactic| walk_at "sd") => `(tactic| first
  | (with_reducible show (_ : Int) < _; omega)
  | (with_reducible show (_ : Int) ≤ _; omega)
  | (with_reducible show (_ : Nat) < _; omega)
  | (with_reducible show (_ : Nat) ≤ _; omega)
  | rfl
  | assumption
  | exact kV_int _
  | exact kV_str _
  | (show (_ : Int) ≠ 0; omega)
  | exact SqL.of (by walk_at "hp")
  | exact ⟨_, SqL.of (by walk_at "hp")⟩
  | exact ⟨_, SqT.of (by walk_at "hp")⟩
  | exact ⟨_, (by assumption)⟩
  | exact SqT.of (by walk_at "hp")
  | exact Rd.of (by walk_at "hp")
  | exact Or.inl (SqL.of (by walk_at "hp"))
  | exact Or.inr (SqT.of (by walk_at "hp"))
  | exact Or.inr (by assumption)
  | (walk_at "hp")
  | (exact Or.inl ⟨rfl, _, SqL.of (by walk_at "hp")⟩)
  | (exact Or.inl ⟨by omega, by omega⟩)
  | (exact Or.inr ⟨by omega, by omega⟩)
  | (refine ⟨?_, ?_, ?_⟩ <;> omega)
  | omega
  | (exact small_le (by first | omega | (simp only [List.length_cons, List.length_nil]; omega)))
  | (exact small_lt (by first | omega | (simp only [List.length_cons, List.length_nil]; omega)))
  | exact Nat.le_of_ble_eq_true rfl
  | exact ⟨_, rfl⟩
  | decide)
local macro_rules | `(tactic| walk_at "st") => `(tactic| first
  | with_reducible refine sq_seq ?_
  | apply Exists.intro
  | (refine And.intro ?_ ?_; (walk_at "sd")))
local macro_rules | `(tactic| walk_at "go") => `(tactic| repeat (walk_at "st"))
section
variable {P : Program} {w : World} {K : PySem.W.Frag} {mg : Str → Option Value} {base : Heap} {a : Ad}
/-! ### Pacts with helpers -/
def hk (M : List (Addr × Hl)) : List (Key × V) := M.map fun e => ((Sum.inr e.2.name : Key), V.ref e.1)
structure PactsH (K : PySem.W.Frag) (C : Addr) (H : Hp) (x kp kd : Addr) (L : List (Addr × Pr)) (M : List (Addr × Hl)) : Prop where
  pa : PactsAt C H x kp kd L (hk M)
  at_ : ∀ e ∈ M, HlAt K H e
theorem PactsH.same {K : PySem.W.Frag} {C : Addr} {H H' : Hp} {x kp kd : Addr} {L : List (Addr × Pr)} {M : List (Addr × Hl)} (h : PactsH K C H x kp kd L M) (k : Same H H') : PactsH K C H' x kp kd L M := ⟨h.pa.same k, fun e he => (h.at_ e he).tk (TK.same k)⟩
theorem hk_none {n : Str} : ∀ {M : List (Addr × Hl)}, n ∉ M.map (fun e => e.2.name) → valV (hk M) (Sum.inr n) = none
  | [], _ => rfl
  | e :: r, h => by
    have h1 : ¬ (Sum.inr e.2.name : Key) = Sum.inr n := fun z => h (by rw [List.map_cons, Sum.inr.inj z]; exact List.mem_cons_self)
    have h2 : n ∉ r.map (fun e => e.2.name) := fun z => h (by rw [List.map_cons]; exact List.mem_cons_of_mem _ z)
    show valV ((Sum.inr e.2.name, V.ref e.1) :: hk r) (Sum.inr n) = none
    rw [valV_neg h1]
    exact hk_none h2
theorem hk_val {e : Addr × Hl} : ∀ {M : List (Addr × Hl)}, (M.map fun e => e.2.name).Nodup → e ∈ M → valV (hk M) (Sum.inr e.2.name) = some (V.ref e.1)
  | [], _, h => by cases h
  | d :: r, hn, h => by
    rw [List.map_cons, List.nodup_cons] at hn
    show valV ((Sum.inr d.2.name, V.ref d.1) :: hk r) (Sum.inr e.2.name) = some (V.ref e.1)
    rcases List.mem_cons.mp h with z | z
    · subst z
      exact valV_pos rfl
    · have hne : ¬ (Sum.inr d.2.name : Key) = Sum.inr e.2.name := fun q => hn.1 (by rw [Sum.inr.inj q]; exact List.mem_map.mpr ⟨e, z, rfl⟩)
      rw [valV_neg hne]
      exact hk_val hn.2 z
theorem hk_in {n : Str} {M : List (Addr × Hl)} (h : n ∈ M.map (fun e => e.2.name)) : ∃ v, valV (hk M) (Sum.inr n) = some v := by
  induction M with
  | nil => cases h
  | cons d r ih =>
    show ∃ v, valV ((Sum.inr d.2.name, V.ref d.1) :: hk r) (Sum.inr n) = some v
    by_cases e : (Sum.inr d.2.name : Key) = Sum.inr n
    · exact ⟨_, valV_pos e⟩
    · rw [valV_neg e]
      refine ih ?_
      rcases List.mem_cons.mp h with z | z
      · exact absurd (congrArg Sum.inr z.symm) e
      · exact z
theorem hk_put {M : List (Addr × Hl)} {n : Str} (v : V) (h : n ∉ M.map (fun e => e.2.name)) : putK (hk M) (Sum.inr n) v = hk M ++ [(Sum.inr n, v)] := putK_new v (hk_none h)
theorem hk_len (M : List (Addr × Hl)) : (hk M).length = M.length := List.length_map _
def spNamesM (K : PySem.W.Frag) (C : Addr) : Sp := fun vs H Q _ => ∃ (x kp kd : Addr) (L : List (Addr × Pr)) (M : List (Addr × Hl)) (s : Int), vs = [.ref x, .int s] ∧ PactsH K C H x kp kd L M ∧ M.length ≤ 10000 ∧
  ∀ D H', H D = none → H' D = some (.lst (((M.filter fun e => decide (e.2.side = s)).map fun e => e.2.name).map V.str)) → Same H H' → Q (.ref D) H'
theorem ok_Pacts_names (T : Txt K mg a) : FnOk P w K mg base CX0 1 a.f_Pacts_names a.d_Pacts_names ["self", "side"] (spNamesM K a.c_Pacts) := by
  have cl_Pacts := T.cl_Pacts
  have na_Pacts_kept_pairs := T.na_Pacts_kept_pairs
  have na_Pacts_kept_pacts := T.na_Pacts_kept_pacts
  refine T.F_Pacts_names.ok sc_Pacts_names (fun vs H Q E h => ?_) (fun cdv A outer s H vs Q E hr h => ?_)
  · obtain ⟨x, kp, kd, L, M, s, rfl, _⟩ := h
    rfl
  · obtain ⟨x, kp, kd, L, M, s, rfl, PA, hl, q⟩ := h
    obtain ⟨dx, ho⟩ := PA.pa.ob
    have hd := PA.pa.pc
    refine ⟨_, (pss_one (ps_ret (pe_lock (pe_lc (own := [("name", 2), ("pact", 3)]) (g := gTup K 2 (gCons (gName 2) (gCons (gName 3) gNil))) (tt := (tTest (tOp _ (tOp (rIxT K) _ _) _))) rfl sc_Pacts_names.nd (pi_items (pe_fld (pv 0) rfl)) (blkOk_by (own := [("name", 2), ("pact", 3)]) (N := n_Pacts_names) (sc := defScope s_Pacts_names) (by decide +kernel)) (fun _ _ _ _ _ => (pg_tup rfl (pgs_cons (pg_name (i := 2) sc_Pacts_names.nd rfl (Or.inl rfl)) (pgs_cons (pg_name (i := 3) sc_Pacts_names.nd rfl (Or.inl rfl)) pgs_nil)))) (fun _ _ _ _ _ => (pts_one (pt_cmpR op_eq (pe_ix ix_tup (pv 3) pe_int (fun _ _ => rfl)) (pv 1) (nomark _)))) (fun _ _ _ _ _ => (pv 2)))))), ?_⟩
    refine ⟨kd, _, hd, trivial, fun od => ?_⟩
    have nxd : x ≠ kd := ne_of ho hd (by intro z; cases z)
    have ho1 : upd H kd (.frz od (.dK (hk M))) x = _ := upd_get nxd ho
    have hd1 : upd H kd (.frz od (.dK (hk M))) kd = some (.frz od (.dK (hk M))) := upd_same
    walk_at "go"
    intro D hD
    have nD : D ≠ kd := fun z => by rw [z, upd_same] at hD; cases hD
    have hD0 : H D = none := by rw [upd_ne nD] at hD; exact hD
    have hlm := hk_len M
    refine lcW (walk_items (d := kd) (o := od) (kvs := hk M)) (fun i H' => H' D = some (.lst ((((M.take i).filter fun e => decide (e.2.side = s)).map fun e => e.2.name).map V.str)) ∧ Same (upd H kd (.frz od (.dK (hk M)))) H') ?_ ?_ ?_ ?_
    · exact ⟨upd_same, Same.upd_new hD⟩
    · exact fun i H' _ h => h.2 _ _ upd_same
    · rintro i v H1 H2 hi ⟨g1, g2⟩ ⟨t, y1, y2, rfl, ht, rfl, hy1, hy2⟩
      have hi2 : i < M.length := by omega
      obtain ⟨e, he⟩ : ∃ e, M[i]? = some e := ⟨_, List.getElem?_eq_getElem hi2⟩
      have hke : (hk M)[i]? = some (Sum.inr e.2.name, V.ref e.1) := by
        show (M.map _)[i]? = _
        rw [List.getElem?_map, he] <;> rfl
      have hy1 : (hk M)[i]?.map (fun kv => kV kv.1) = some y1 := hy1
      have hy2 : (hk M)[i]?.map Prod.snd = some y2 := hy2
      rw [hke] at hy1 hy2
      cases hy1
      cases hy2
      have s2 : Same H1 (upd H1 t (.tup [.str e.2.name, .ref e.1])) := Same.upd_new ht
      obtain ⟨tk, th, h1, h2, h3⟩ := PA.at_ e (List.mem_of_getElem? he)
      have hp : upd H1 t (.tup [.str e.2.name, .ref e.1]) e.1 = _ := s2 _ _ (g2 _ _ (upd_get (ne_of h1 hd (by intro z; cases z)) h1))
      have hat : atI [V.str e.2.name, .int e.2.side, .ref tk, .bl e.2.gives, .ref th] 1 = some (.int e.2.side) := rfl
      have g12 := s2 _ _ g1
      have fl := filt_len (fun e : Addr × Hl => decide (e.2.side = s)) M i
      have ht2 : upd H1 t (.tup [.str e.2.name, .ref e.1]) t = some (.tup [.str e.2.name, .ref e.1]) := upd_same
      refine ⟨t, [.str e.2.name, .ref e.1], rfl, SqT.of ht2, rfl, _, _, rfl, _, _, rfl, rfl, ?_⟩
      refine ⟨rfl, ?_⟩
      walk_at "go"
      refine ifD (fun b => ?_) (fun b => ?_)
      · have b1 : e.2.side = s := V.int.inj b
        walk_at "go"
        refine ⟨small_lt (by rw [List.length_map, List.length_map]; omega), wait ⟨?_, fun x o e => upd_get (ne_of_none e hD) (s2 _ _ (g2 x o e))⟩⟩
        rw [upd_same, take_filt_yes he (decide_eq_true b1), List.map_append, List.map_append] <;> rfl
      · have b1 : ¬ e.2.side = s := fun z => b (congrArg V.int z)
        refine wait ⟨?_, fun x o e => s2 _ _ (g2 x o e)⟩
        rw [take_filt_no he (decide_eq_false b1)]
        exact g12
    · rintro H1 ⟨g1, g2⟩
      rw [hlm, List.take_length] at g1
      refine ⟨g2 _ _ upd_same, ?_⟩
      refine q D _ hD0 (upd_get nD g1) fun y o e => ?_
      by_cases z : y = kd
      · rw [z, hd] at e
        rw [z, upd_same]
        exact e
      · exact upd_get z (g2 _ _ (upd_get z e))
def fitsH (ps : List Pr) (ahead : List Hl) (h : Hl) : Bool :=
  nameB h.name && decide (h.name ∉ ahead.map (·.name)) && decide (h.side = 0 ∨ h.side = 1) && decide ((ahead.filter fun k => decide (k.side = h.side)).length ≠ 4) && decide (h.takes.length ≤ 3) && decide (h.throws.length ≤ 4) &&
    (h.takes.all fun w => decide (w ∈ hows)) && decide h.throws.Nodup && h.throws.all fun w => decide (w ∈ ps.map (·.word h.side))
def spFitsHelper (K : PySem.W.Frag) (C : Addr) : Sp := fun vs H Q _ => ∃ (x kp kd t : Addr) (L : List (Addr × Pr)) (M : List (Addr × Hl)) (h : Hl), vs = [.ref x, .ref t] ∧ PactsH K C H x kp kd L M ∧ HlAt K H (t, h) ∧ L.length ≤ 10000 ∧ M.length ≤ 10000 ∧ h.name.length ≤ 100000 ∧ h.takes.length ≤ 4000 ∧ h.throws.length ≤ 4000 ∧
  ∀ H', Same H H' → Q (.bl (fitsH (L.map (·.2)) (M.map (·.2)) h)) H'
theorem ok_Pacts_fits_helper (T : Txt K mg a) : FnOk P w K mg base CX0 2 a.f_Pacts_fits_helper a.d_Pacts_fits_helper ["self", "helper"] (spFitsHelper K a.c_Pacts) := by
  have G_is_name := ok_is_name (P := P) (w := w) (base := base) T
  have G_Pacts_names := ok_Pacts_names (P := P) (w := w) (base := base) T
  have G_Pacts_words_called := ok_Pacts_words_called (P := P) (w := w) (base := base) T
  have cl_Pacts := T.cl_Pacts
  have na_Pacts_kept_pairs := T.na_Pacts_kept_pairs
  have na_Pacts_kept_pacts := T.na_Pacts_kept_pacts
  refine T.F_Pacts_fits_helper.ok sc_Pacts_fits_helper (fun vs H Q E h => ?_) (fun cdv A outer s H vs Q E hr h => ?_)
  · obtain ⟨x, kp, kd, t, L, M, h, rfl, _⟩ := h
    rfl
  · obtain ⟨x, kp, kd, t, L, M, h, rfl, PA, HA, l1, l2, l3, l4, l5, q⟩ := h
    obtain ⟨tk, th, ht, htk, hth⟩ := HA
    obtain ⟨dx, ho⟩ := PA.pa.ob
    have hd := PA.pa.pc
    refine ⟨_, (pss_cons (ps_asg (pv 1) (pg_tup rfl (pgs_cons (pg_name (i := 2) sc_Pacts_fits_helper.nd rfl (Or.inl rfl)) (pgs_cons (pg_name (i := 3) sc_Pacts_fits_helper.nd rfl (Or.inr rfl)) (pgs_cons (pg_name (i := 4) sc_Pacts_fits_helper.nd rfl (Or.inl rfl)) (pgs_cons (pg_name (i := 5) sc_Pacts_fits_helper.nd rfl (Or.inl rfl)) (pgs_cons (pg_name (i := 6) sc_Pacts_fits_helper.nd rfl (Or.inl rfl)) pgs_nil)))))))
      (pss_cons (ps_if (pt_mid (PW.pt (pw_or (pt_not (pt_val (pe_call G_is_name (hr.mono (by decide)) rfl T.m_is_name T.F_is_name.kp T.b_is_name .nil pass0 (pa_cons (pv 2) pa_nil)))) (pw_or (pt_cmp (pc_din (hu_of hr) (pv 2) (pe_fld (pv 0) rfl))) (pw_or1 (pt_cmpR op_notIn_seq (pv 3) (pe_tup (pa_cons pe_int (pa_cons pe_int pa_nil))) (by rfl))))))) (pss_one (ps_ret pe_bl)) pss_nil)
      (pss_cons (ps_if (pt_mid (PW.pt (pw_or (pt_cmpR op_eq (pe_callB call_lenK (by rfl) T.z_len PySem.boot_len (pa_cons (pe_meth (pv 0) T.cl_Pacts T.mt_Pacts_names G_Pacts_names (hr.mono (by decide)) T.b_Pacts_names .nil pass0 (pa_cons (pv 3) pa_nil)) pa_nil)) (pe_globI rfl T.g_MOST_HELPERS) (nomark _)) (pw_or (pt_cmpR op_gt (pe_callB call_lenK (by rfl) T.z_len PySem.boot_len (pa_cons (pv 4) pa_nil)) (pe_globI rfl T.g_MOST_TAKES) (nomark _)) (pw_or1 (pt_cmpR op_gt (pe_callB call_lenK (by rfl) T.z_len PySem.boot_len (pa_cons (pv 6) pa_nil)) (pe_globI rfl T.g_MOST_THROWS) (nomark _))))))) (pss_one (ps_ret pe_bl)) pss_nil)
      (pss_cons (ps_if (pt_mid (PW.pt (pw_or (pt_val (pe_callB (cr_any rfl) (by rfl) T.z_any (by decide +kernel) (pa_cons (pe_lc (own := [("how", 7)]) (g := gName 7) (tt := tYes) (te := (tOp (rIn K true) _ _)) rfl sc_Pacts_fits_helper.nd (pi_tup (pv 4)) (blkOk_by (own := [("how", 7)]) (N := n_Pacts_fits_helper) (sc := defScope s_Pacts_fits_helper) (by decide +kernel)) (fun _ _ _ _ _ => (pg_name (i := 7) sc_Pacts_fits_helper.nd rfl (Or.inl rfl))) (fun _ _ _ _ _ => pts_nil) (fun _ _ _ _ _ => (pe_cmpR op_notIn_seq (pv 7) (pe_glob (v := .ref a.k_HOWS) rfl T.g_HOWS rfl) (by rfl)))) pa_nil))) (pw_or1 (pt_cmpR op_ne (pe_lenU rfl (by rfl) T.z_len (by rfl) T.z_set (pv 6)) (pe_callB call_lenK (by rfl) T.z_len PySem.boot_len (pa_cons (pv 6) pa_nil)) (nomark _)))))) (pss_one (ps_ret pe_bl)) pss_nil)
      (pss_one (ps_ret (pe_callB (cr_all rfl) (by rfl) T.z_all (by decide +kernel) (pa_cons (pe_lc (own := [("word", 8)]) (g := gName 8) (tt := tYes) (te := (tOp (rIn K false) _ _)) rfl sc_Pacts_fits_helper.nd (pi_tup (pv 6)) (blkOk_by (own := [("word", 8)]) (N := n_Pacts_fits_helper) (sc := defScope s_Pacts_fits_helper) (by decide +kernel)) (fun _ _ _ _ _ => (pg_name (i := 8) sc_Pacts_fits_helper.nd rfl (Or.inl rfl))) (fun _ _ _ _ _ => pts_nil) (fun _ _ _ _ _ => (pe_cmpR op_in_seq (pv 8) (pe_meth (pv 0) T.cl_Pacts T.mt_Pacts_words_called G_Pacts_words_called (hr.mono (by decide)) T.b_Pacts_words_called .nil pass0 (pa_cons (pv 3) pa_nil)) (by rfl)))) pa_nil)))))))), ?_⟩
    have ht : H t = some (.tup [.str h.name, .int h.side, .ref tk, .bl h.gives, .ref th]) := ht
    have bad : ∀ H', Same H H' → fitsH (L.map (·.2)) (M.map (·.2)) h = false → Q (.bl false) H' := fun H' s e => by rw [← e]; exact q H' s
    have lt : (h.takes.map V.str).length = h.takes.length := List.length_map _
    have lh : (h.throws.map V.str).length = h.throws.length := List.length_map _
    walk_at "go"
    refine midT_of (fun c H1 => Same H H1 ∧ (c = true → fitsH (L.map (·.2)) (M.map (·.2)) h = false) ∧ (c = false → nameB h.name = true ∧ h.name ∉ M.map (fun e => e.2.name) ∧ (h.side = 0 ∨ h.side = 1))) ?_ ?_
    · walk_at "go"
      intro H1 s1
      have PA1 := PA.same s1
      obtain ⟨dx1, ho1⟩ := PA1.pa.ob
      have hd1 := PA1.pa.pc
      cases en : nameB h.name with
      | false =>
        walk_at "go"
        exact wait ⟨s1, fun _ => by unfold fitsH; rw [en]; simp, fun z => nomatch z⟩
      | true =>
        by_cases hin : h.name ∈ M.map (fun e => e.2.name)
        · obtain ⟨v, hv⟩ := hk_in hin
          have hget : DGet H1 kd (.str h.name) (some v) := by
            have := DGet.k (k := Sum.inr h.name) hd1
            rw [hv] at this
            exact this
          walk_at "go"
          refine wait ⟨s1, fun _ => ?_, fun z => nomatch z⟩
          unfold fitsH
          rw [decide_eq_false (show ¬ h.name ∉ (M.map (·.2)).map (·.name) by rw [List.map_map]; exact fun z => z hin)]
          simp
        · have hget : DGet H1 kd (.str h.name) none := by
            have := DGet.k (k := Sum.inr h.name) hd1
            rw [hk_none hin] at this
            exact this
          walk_at "go"
          intro p2 hp2
          have s2 : Same H1 (upd H1 p2 (.tup [.int 0, .int 1])) := Same.upd_new hp2
          refine ⟨p2, _, rfl, .inr (SqT.of upd_same), rfl, rfl, ?_⟩
          have ein : inV (.int h.side) [.int 0, .int 1] = decide (h.side = 0 ∨ h.side = 1) := by
            show ((0 == h.side) || ((1 == h.side) || false)) = _
            by_cases e0 : h.side = 0
            · rw [e0] <;> rfl
            · by_cases e1 : h.side = 1
              · rw [e1] <;> rfl
              · have f0 : (0 == h.side) = false := by simpa using fun z : (0 : Int) = h.side => e0 z.symm
                have f1 : (1 == h.side) = false := by simpa using fun z : (1 : Int) = h.side => e1 z.symm
                rw [f0, f1, decide_eq_false (by omega)] <;> rfl
          rw [if_pos rfl, ein]
          refine ⟨_, rfl, wait ⟨s1.trans s2, fun b => ?_, fun b => ?_⟩⟩
          · have b1 : ¬ (h.side = 0 ∨ h.side = 1) := by simpa using b
            unfold fitsH
            rw [decide_eq_false b1]
            simp
          · have b1 : h.side = 0 ∨ h.side = 1 := of_decide_eq_true ((Bool.not_eq_false' (b := decide (h.side = 0 ∨ h.side = 1))).mp b)
            exact ⟨rfl, hin, b1⟩
    · rintro c H1 ⟨s1, c1, c2⟩
      refine ifB (fun ec => ?_) (fun ec => ?_)
      · walk_at "go"
        exact bad _ s1 (c1 ec)
      · obtain ⟨en, hin, hsd⟩ := c2 ec
        have PA1 := PA.same s1
        obtain ⟨dx1, ho1⟩ := PA1.pa.ob
        walk_at "go"
        refine midT_of (fun c H2 => Same H1 H2 ∧ (c = true → fitsH (L.map (·.2)) (M.map (·.2)) h = false) ∧ (c = false → ((M.map (·.2)).filter fun k => decide (k.side = h.side)).length ≠ 4 ∧ h.takes.length ≤ 3 ∧ h.throws.length ≤ 4)) ?_ ?_
        · walk_at "go"
          intro D H2 hD hD2 s2
          have lf : (((M.filter fun e => decide (e.2.side = h.side)).map fun e => e.2.name).map V.str).length = ((M.map (·.2)).filter fun k => decide (k.side = h.side)).length := by
            rw [List.length_map, List.length_map, List.filter_map, List.length_map] <;> rfl
          have s12 := s1.trans s2
          have htk2 := s12.seqT htk
          have hth2 := s12.seqT hth
          refine ⟨_, _, rfl, .inl (SqL.of hD2), rfl, _, rfl, ?_⟩
          rw [lf]
          refine ifD (fun b => ?_) (fun b => ?_)
          · refine wait ⟨s2, fun _ => ?_, fun z => nomatch z⟩
            unfold fitsH
            rw [decide_eq_false (show ¬ ((M.map (·.2)).filter fun k => decide (k.side = h.side)).length ≠ 4 from fun z => z (by have := V.int.inj b; omega))]
            simp
          · have b1 : ((M.map (·.2)).filter fun k => decide (k.side = h.side)).length ≠ 4 := fun z => b (by rw [z] <;> rfl)
            refine ⟨_, rfl, tk, _, rfl, .inr htk2, _, _, rfl, rfl, _, rfl, ?_⟩
            rw [lt]
            refine ifD (fun b2 => ?_) (fun b2 => ?_)
            · refine wait ⟨s2, fun _ => ?_, fun z => nomatch z⟩
              unfold fitsH
              rw [decide_eq_false (show ¬ h.takes.length ≤ 3 by omega)]
              simp
            · refine ⟨_, rfl, th, _, rfl, .inr hth2, _, _, rfl, rfl, _, rfl, ?_⟩
              rw [lh]
              refine wait ⟨s2, fun b3 => ?_, fun b3 => ⟨b1, by omega, ?_⟩⟩
              · have b4 := of_decide_eq_true b3
                unfold fitsH
                rw [decide_eq_false (show ¬ h.throws.length ≤ 4 by omega)]
                simp
              · have b4 := of_decide_eq_false b3
                omega
        · rintro c H2 ⟨s2, c3, c4⟩
          have s12 := s1.trans s2
          refine ifB (fun ed => ?_) (fun ed => ?_)
          · walk_at "go"
            exact bad _ s12 (c3 ed)
          · obtain ⟨n4, t3, h4⟩ := c4 ed
            have htk2 := s12.seqT htk
            have hth2 := s12.seqT hth
            walk_at "go"
            refine midT_of (fun c H3 => Same H2 H3 ∧ (c = true → fitsH (L.map (·.2)) (M.map (·.2)) h = false) ∧ (c = false → (h.takes.all fun w => decide (w ∈ hows)) = true ∧ h.throws.Nodup)) ?_ ?_
            · walk_at "go"
              intro D hD
              refine lcT (K := K) (a := tk) (xs := h.takes.map V.str) (fun i H' => H' D = some (.lst (((h.takes.take i).map fun w => !decide (w ∈ hows)).map V.bl)) ∧ Same H2 H') ?_ ?_ ?_ ?_
              · exact ⟨upd_same, Same.upd_new hD⟩
              · exact fun i H' _ h => h.2.seqT htk2
              · rintro i y H' hi ⟨g1, g2⟩
                rw [List.getElem?_map] at hi
                obtain ⟨w1, hw1, rfl⟩ := Option.map_eq_some_iff.mp hi
                have hlt := (List.getElem?_eq_some_iff.mp hw1).1
                refine ⟨rfl, ?_⟩
                refine ⟨_, rfl, a.k_HOWS, _, rfl, .inr (T.tp_HOWS _), rfl, rfl, ?_⟩
                rw [if_pos rfl, show inV (.str w1) [.str "lent", .str "given"] = decide (w1 ∈ hows) from in_strs w1 hows]
                refine ⟨_, g1, small_lt (by rw [List.length_map, List.length_map, List.length_take]; omega), wait ⟨?_, fun x o e => upd_get (ne_of_none e hD) (g2 x o e)⟩⟩
                rw [upd_same, List.take_add_one, hw1, List.map_append, List.map_append] <;> rfl
              · rintro H3 ⟨g1, g2⟩
                rw [List.length_map, List.take_length] at g1
                have hth3 := g2.seqT hth2
                refine ⟨D, _, rfl, SqL.of g1, _, rfl, ?_⟩
                have eany : (h.takes.map fun w => !decide (w ∈ hows)).any id = !(h.takes.all fun w => decide (w ∈ hows)) := by
                  rw [List.any_map]
                  simp [List.all_eq_not_any_not]
                rw [eany]
                cases ea : (h.takes.all fun w => decide (w ∈ hows)) with
                | false =>
                  refine ifT rfl (wait ⟨g2, fun _ => ?_, fun z => nomatch z⟩)
                  unfold fitsH
                  rw [ea]
                  simp
                | true =>
                  refine ifF rfl ?_
                  refine ⟨_, rfl, th, h.throws, rfl, hth3, l5, _, rfl, th, _, rfl, .inr hth3, rfl, _, rfl, wait ⟨g2, fun b => ?_, fun b => ⟨rfl, ?_⟩⟩⟩
                  · have b1 : (PfS.uniq h.throws).length ≠ h.throws.length := fun z => by
                      rw [lh, z] at b
                      simp at b
                    unfold fitsH
                    rw [decide_eq_false (show ¬ h.throws.Nodup from fun z => b1 ((PfS.uniq_len _).mpr z))]
                    simp
                  · rw [lh] at b
                    have b1 : V.int ((PfS.uniq h.throws).length : Int) = V.int (h.throws.length : Int) := by simpa using b
                    have b2 := V.int.inj b1
                    exact (PfS.uniq_len _).mp (by omega)
            · rintro c H3 ⟨s3, c5, c6⟩
              refine ifB (fun ee => ?_) (fun ee => ?_)
              · walk_at "go"
                exact bad _ (s12.trans s3) (c5 ee)
              · obtain ⟨hw1, hn1⟩ := c6 ee
                have s13 := s12.trans s3
                have hth3 := s13.seqT hth
                have PA3 := PA.same s13
                walk_at "go"
                intro D hD
                refine lcT (K := K) (a := th) (xs := h.throws.map V.str) (fun i H' => H' D = some (.lst (((h.throws.take i).map fun w => decide (w ∈ (L.map (·.2)).map (·.word h.side))).map V.bl)) ∧ Same H3 H') ?_ ?_ ?_ ?_
                · exact ⟨upd_same, Same.upd_new hD⟩
                · exact fun i H' _ h => h.2.seqT hth3
                · rintro i y H' hi ⟨g1, g2⟩
                  rw [List.getElem?_map] at hi
                  obtain ⟨w1, hw1, rfl⟩ := Option.map_eq_some_iff.mp hi
                  have hlt := (List.getElem?_eq_some_iff.mp hw1).1
                  have PA4 := PA3.same g2
                  obtain ⟨dx4, ho4⟩ := PA4.pa.ob
                  have pa4 := PA4.pa
                  refine ⟨rfl, ?_⟩
                  walk_at "go"
                  intro Z H5 hZ hZ5 s5
                  refine ⟨Z, _, rfl, .inl (SqL.of hZ5), rfl, flat_strs1 _, ?_⟩
                  have ein : inV (.str w1) ((L.map fun e => e.2.word h.side).map V.str) = decide (w1 ∈ (L.map (·.2)).map (·.word h.side)) := by
                    rw [in_strs, List.map_map] <;> rfl
                  rw [if_neg (by decide), ein]
                  refine ⟨_, s5 _ _ g1, small_lt (by rw [List.length_map, List.length_map, List.length_take]; omega), wait ⟨?_, fun x o e => upd_get (ne_of_none e hD) (s5 _ _ (g2 x o e))⟩⟩
                  rw [upd_same, List.take_add_one, hw1, List.map_append, List.map_append] <;> rfl
                · rintro H4 ⟨g1, g2⟩
                  rw [List.length_map, List.take_length] at g1
                  refine ⟨D, _, rfl, SqL.of g1, ?_⟩
                  have ef : fitsH (L.map (·.2)) (M.map (·.2)) h = (h.throws.map fun w => decide (w ∈ (L.map (·.2)).map (·.word h.side))).all id := by
                    unfold fitsH
                    rw [en, decide_eq_true (show h.name ∉ (M.map (·.2)).map (·.name) by rw [List.map_map]; exact hin), decide_eq_true hsd, decide_eq_true n4, decide_eq_true t3, decide_eq_true h4, hw1, decide_eq_true hn1, List.all_map] <;> rfl
                  have qq := q _ (s13.trans g2)
                  rw [ef] at qq
                  exact qq
end
end Pf
set_option Elab.async false
set_option linter.all false
set_option maxRecDepth 100000
set_option maxHeartbeats 4000000
namespace Pf
open PySem L2
local macro_rules | `(tactic| walk_at "nz") => `(tactic| (show (_ : Int) ≠ 0; omega))
local macro_rules | `(tactic| walk_at "ne") => `(tactic| first | assumption | (apply Ne.symm; assumption))
local macro_rules | `(tactic| walk_at "hp") => `(tactic| first | assumption | exact upd_same | (refine upd_get ?_ ?_; walk_at "ne"; walk_at "hp"))
local macro_rules | `(tactic| walk_at "sd") => `(tactic| first
  | (with_reducible show (_ : Int) < _; omega)
  | (with_reducible show (_ : Int) ≤ _; omega)
  | (with_reducible show (_ : Nat) < _; omega)
  | (with_reducible show (_ : Nat) ≤ _; omega)
  | rfl
  | assumption
  | exact kV_int _
  | exact kV_str _
  | (show (_ : Int) ≠ 0; omega)
  | exact SqL.of (by walk_at "hp")
  | exact ⟨_, SqL.of (by walk_at "hp")⟩
  | exact ⟨_, SqT.of (by walk_at "hp")⟩
  | exact ⟨_, (by assumption)⟩
  | exact SqT.of (by walk_at "hp")
  | exact Rd.of (by walk_at "hp")
  | exact Or.inl (SqL.of (by walk_at "hp"))
  | exact Or.inr (SqT.of (by walk_at "hp"))
  | exact Or.inr (by assumption)
  | (walk_at "hp")
  | (exact Or.inl ⟨rfl, _, SqL.of (by walk_at "hp")⟩)
  | (exact Or.inl ⟨by omega, by omega⟩)
  | (exact Or.inr ⟨by omega, by omega⟩)
  | (refine ⟨?_, ?_, ?_⟩ <;> omega)
  | omega
  | (exact small_le (by first | omega | (simp only [List.length_cons, List.length_nil]; omega)))
  | (exact small_lt (by first | omega | (simp only [List.length_cons, List.length_nil]; omega)))
  | exact Nat.le_of_ble_eq_true rfl
  | exact ⟨_, rfl⟩
  | decide)
local macro_rules | `(tactic| walk_at "st") => `(tactic| first
  | with_reducible refine sq_seq ?_
  | apply Exists.intro
  | (refine And.intro ?_ ?_; (walk_at "sd")))
local macro_rules | `(tactic| walk_at "go") => `(tactic| repeat (walk_at "st"))
section
variable {P : Program} {w : World} {K : PySem.W.Frag} {mg : Str → Option Value} {base : Heap} {a : Ad}
theorem hk_snoc (M : List (Addr × Hl)) (e : Addr × Hl) : hk (M ++ [e]) = hk M ++ [(Sum.inr e.2.name, V.ref e.1)] := by
  unfold hk
  rw [List.map_append] <;> rfl
/-! ### which one is refused -/
def okPs (ps : List Pr) : Prop := ∀ i p, ps[i]? = some p → fitsP (ps.take i) p = true
def okHs (ps : List Pr) (hs : List Hl) : Prop := ∀ i h, hs[i]? = some h → fitsH ps (hs.take i) h = true
def badP (ps : List Pr) (i : Nat) : Prop := (∃ p, ps[i]? = some p ∧ fitsP (ps.take i) p = false) ∧ ∀ j < i, ∀ p, ps[j]? = some p → fitsP (ps.take j) p = true
def badH (ps : List Pr) (hs : List Hl) (i : Nat) : Prop := (∃ h, hs[i]? = some h ∧ fitsH ps (hs.take i) h = false) ∧ ∀ j < i, ∀ h, hs[j]? = some h → fitsH ps (hs.take j) h = true
def FB (ps : List Pr) (hs : List Hl) (z : Int) : Prop := (z = -1 ∧ okPs ps ∧ okHs ps hs) ∨ (∃ i : Nat, z = i ∧ badP ps i) ∨ ∃ i : Nat, z = ps.length + i ∧ okPs ps ∧ badH ps hs i
theorem badP_not {ps : List Pr} {i : Nat} (b : badP ps i) (o : okPs ps) : False := by
  obtain ⟨⟨p, h1, h2⟩, _⟩ := b
  rw [o i p h1] at h2
  cases h2
theorem badH_not {ps : List Pr} {hs : List Hl} {i : Nat} (b : badH ps hs i) (o : okHs ps hs) : False := by
  obtain ⟨⟨p, h1, h2⟩, _⟩ := b
  rw [o i p h1] at h2
  cases h2
theorem badP_one {ps : List Pr} {i j : Nat} (a : badP ps i) (b : badP ps j) : i = j := by
  obtain ⟨⟨p, h1, h2⟩, h3⟩ := a
  obtain ⟨⟨q, g1, g2⟩, g3⟩ := b
  rcases Nat.lt_trichotomy i j with e | e | e
  · rw [g3 i e p h1] at h2; cases h2
  · exact e
  · rw [h3 j e q g1] at g2; cases g2
theorem badH_one {ps : List Pr} {hs : List Hl} {i j : Nat} (a : badH ps hs i) (b : badH ps hs j) : i = j := by
  obtain ⟨⟨p, h1, h2⟩, h3⟩ := a
  obtain ⟨⟨q, g1, g2⟩, g3⟩ := b
  rcases Nat.lt_trichotomy i j with e | e | e
  · rw [g3 i e p h1] at h2; cases h2
  · exact e
  · rw [h3 j e q g1] at g2; cases g2
theorem FB_one {ps : List Pr} {hs : List Hl} {z y : Int} (a : FB ps hs z) (b : FB ps hs y) : z = y := by
  rcases a with ⟨e, o1, o2⟩ | ⟨i, e, b1⟩ | ⟨i, e, o1, b2⟩
  · rcases b with ⟨f, _, _⟩ | ⟨j, f, c1⟩ | ⟨j, f, p1, c2⟩
    · rw [e, f]
    · exact (badP_not c1 o1).elim
    · exact (badH_not c2 o2).elim
  · rcases b with ⟨f, p1, _⟩ | ⟨j, f, c1⟩ | ⟨j, f, p1, c2⟩
    · exact (badP_not b1 p1).elim
    · rw [e, f, badP_one b1 c1]
    · exact (badP_not b1 p1).elim
  · rcases b with ⟨f, _, p2⟩ | ⟨j, f, c1⟩ | ⟨j, f, p1, c2⟩
    · exact (badH_not b2 p2).elim
    · exact (badP_not c1 o1).elim
    · rw [e, f, badH_one b2 c2]
theorem fitsH_new {ps : List Pr} {hs : List Hl} {h : Hl} (f : fitsH ps hs h = true) : h.name ∉ hs.map (·.name) := by
  unfold fitsH at f
  simp only [Bool.and_eq_true] at f
  exact of_decide_eq_true f.1.1.1.1.1.1.1.2
/-- texts and lists of no great size -/
structure SzP (ps : List Pr) : Prop where
  len : ps.length ≤ 10000
  nl : ∀ p ∈ ps, p.near.length ≤ 10000 ∧ p.far.length ≤ 10000
structure SzH (hs : List Hl) : Prop where
  len : hs.length ≤ 10000
  nl : ∀ h ∈ hs, h.name.length ≤ 10000 ∧ h.takes.length ≤ 4000 ∧ h.throws.length ≤ 4000
theorem ok_NoPact___init__ (T : Txt K mg a) : FnOk P w K mg base CX0 1 a.f_NoPact___init__ a.d_NoPact___init__ ["self", "at"] (spErr a.c_NoPact "at") := by
  refine T.F_NoPact___init__.ok sc_NoPact___init__ (fun vs H Q E h => ?_) (fun cdv A outer s H vs Q E hr h => ?_)
  · obtain ⟨e, v, rfl, _⟩ := h
    rfl
  · obtain ⟨e, v, rfl, he, q⟩ := h
    refine ⟨_, pss_one (ps_ost (pv 0) (pv 1)), ?_⟩
    exact ⟨_, rfl, _, rfl, e, a.c_NoPact, rfl, T.ox_NoPact, T.na_NoPact_at, .inl ⟨he, q⟩⟩
def spInitX (K : PySem.W.Frag) (C N : Addr) : Sp := fun vs H Q E => ∃ (x dx pl hl : Addr) (L : List (Addr × Pr)) (M : List (Addr × Hl)), vs = [.ref x, .ref pl, .ref hl] ∧ H x = some (.ins C dx []) ∧ PairsAt H pl L ∧ HelpersAt K H hl M ∧ SzP (L.map (·.2)) ∧ SzH (M.map (·.2)) ∧
  (okPs (L.map (·.2)) → okHs (L.map (·.2)) (M.map (·.2)) → ∀ (kp kd : Addr) (H' : Hp), H kp = none → H kd = none → PactsH K C H' x kp kd L M → (∀ y o, y ≠ x → H y = some o → H' y = some o) → Q .non H') ∧
  (∀ z, FB (L.map (·.2)) (M.map (·.2)) z → z ≠ -1 → ∀ (d : Addr) (H' : Hp), H d = none → H' d = some (.xd [("at", .int z)]) → (∀ y o, y ≠ x → H y = some o → H' y = some o) → E (.ref N) (some d) H')
theorem ok_Pacts___init__ (T : Txt K mg a) : FnOk P w K mg base (L2.CX P w) 3 a.f_Pacts___init__ a.d_Pacts___init__ ["self", "pairs", "helpers"] (spInitX K a.c_Pacts a.c_NoPact) := by
  have G_Pacts_fits_pair := ok_Pacts_fits_pair (P := P) (w := w) (base := base) T
  have G_NoPact___init__ := ok_NoPact___init__ (P := P) (w := w) (base := base) T
  have G_Pacts_fits_helper := ok_Pacts_fits_helper (P := P) (w := w) (base := base) T
  have cl_Pacts := T.cl_Pacts
  have na_Pacts_kept_pairs := T.na_Pacts_kept_pairs
  have na_Pacts_kept_pacts := T.na_Pacts_kept_pacts
  refine T.F_Pacts___init__.okX sc_Pacts___init__ (fun vs H Q E h => ?_) (fun cdv A outer s H vs Q E hr h => ?_)
  · obtain ⟨x, dx, pl, hl, L, M, rfl, _⟩ := h
    rfl
  · obtain ⟨x, dx, pl, hl, L, M, rfl, hx, PP, HH, zP, zH, q1, q2⟩ := h
    refine ⟨_, (pss_cons (ps_fld (pv 0) (pe_lst pa_nil) rfl)
      (pss_cons (ps_fld (pv 0) pe_dnewK rfl)
      (pss_cons (ps_stop (ps_for (passes_of rfl) rfl (pi_wait (pi_enum rfl T.z_enumerate (pa_cons (pv 1) pa_nil))) (pg_tup rfl (pgs_cons (pg_name (i := 3) sc_Pacts___init__.nd rfl (Or.inl rfl)) (pgs_cons (pg_name (i := 4) sc_Pacts___init__.nd rfl (Or.inl rfl)) pgs_nil))) (pss_cons (ps_if (pt_not (pt_val (pe_meth (pv 0) T.cl_Pacts T.mt_Pacts_fits_pair G_Pacts_fits_pair (hr.mono (by decide)) T.b_Pacts_fits_pair .nil pass0 (pa_cons (pv 4) pa_nil)))) (pss_one (ps_raise rfl (takes_of rfl rfl rfl rfl) (pmk_oex T.ox_NoPact T.ini_NoPact T.ti_NoPact G_NoPact___init__ (hr.mono (by decide)) T.b_NoPact___init__ .nil pass0 rfl T.m_NoPact (by exact (pa_cons (pv 3) pa_nil))))) pss_nil)
      (pss_one (ps_expr (pe_bm PySem.F.plainAttrs_list PySem.F.slot_list_append PySem.F.type_list_append mt_append (pe_fld (pv 0) rfl) (pa_cons (pv 4) pa_nil)))))))
      (pss_one (ps_stop (ps_for (passes_of rfl) rfl (pi_wait (pi_enum rfl T.z_enumerate (pa_cons (pv 2) pa_nil))) (pg_tup rfl (pgs_cons (pg_name (i := 3) sc_Pacts___init__.nd rfl (Or.inl rfl)) (pgs_cons (pg_name (i := 5) sc_Pacts___init__.nd rfl (Or.inl rfl)) pgs_nil))) (pss_cons (ps_if (pt_not (pt_val (pe_meth (pv 0) T.cl_Pacts T.mt_Pacts_fits_helper G_Pacts_fits_helper (hr.mono (by decide)) T.b_Pacts_fits_helper .nil pass0 (pa_cons (pv 5) pa_nil)))) (pss_one (ps_raise rfl (takes_of rfl rfl rfl rfl) (pmk_oex T.ox_NoPact T.ini_NoPact T.ti_NoPact G_NoPact___init__ (hr.mono (by decide)) T.b_NoPact___init__ .nil pass0 rfl T.m_NoPact (by exact (pa_cons (pe_op op_add (pe_callB call_lenK (by rfl) T.z_len PySem.boot_len (pa_cons (pv 1) pa_nil)) (pv 3)) pa_nil))))) pss_nil)
      (pss_one (ps_dput (hu_of hr) (pe_fld (pv 0) rfl) (pe_ix ix_tup (pv 5) pe_int (fun _ _ => rfl)) (pv 5) rfl))))))))), ?_⟩
    refine ⟨Nat.zero_le _, fun kp hkp => ?_⟩
    have nxp : x ≠ kp := ne_of_none hx hkp
    walk_at "go"
    intro kd hkd
    have nxd : x ≠ kd := fun z => by rw [← z, upd_same] at hkd; cases hkd
    have hkd1 : upd H kp (.lst []) kd = none := by rw [upd_ne nxd.symm] at hkd; exact hkd
    have npd : kp ≠ kd := fun z => by rw [← z, upd_same] at hkd1; cases hkd1
    have hkd2 : H kd = none := by rw [upd_ne npd.symm] at hkd1; exact hkd1
    walk_at "go"
    obtain ⟨H0, e0⟩ : ∃ H0, H0 = upd (upd (upd (upd H kp (.lst [])) x (.ins a.c_Pacts dx [(("kept_pairs" : Str), V.ref kp)])) kd (.dK [])) x (.ins a.c_Pacts dx (pf kp kd)) := ⟨_, rfl⟩
    have hx0 : H0 x = some (.ins a.c_Pacts dx (pf kp kd)) := by rw [e0, upd_same]
    have hp0 : H0 kp = some (.lst []) := by rw [e0, upd_ne nxp.symm, upd_ne npd, upd_ne nxp.symm, upd_same]
    have hd0 : H0 kd = some (.dK []) := by rw [e0, upd_ne nxd.symm, upd_same]
    have k0 : ∀ y o, y ≠ x → H y = some o → H0 y = some o := fun y o n e => by
      rw [e0, upd_ne n, upd_ne (ne_of_none e hkd2), upd_ne n, upd_ne (ne_of_none e hkp)]
      exact e
    show tStop _ _ _ (upd (upd (upd (upd H kp (.lst [])) x (.ins a.c_Pacts dx [(("kept_pairs" : Str), V.ref kp)])) kd (.dK [])) x (.ins a.c_Pacts dx (pf kp kd)))
    rw [← e0]
    have nlx : pl ≠ x := ne_of PP.ls hx (by intro z; cases z)
    have nhx : hl ≠ x := ne_of HH.ls hx (by intro z; cases z)
    have hls0 := k0 _ _ nlx PP.ls
    have zl := zP.len
    have zm := zH.len
    rw [List.length_map] at zl zm
    refine stop_in ?_
    walk_at "go"
    refine wait ?_
    refine forW (walk_enum (K := K) (xs := L.map fun e => V.ref e.1)) (fun i σ H' => (∃ u3 u4, σ = [some (.ref x), some (.ref pl), some (.ref hl), u3, u4, none]) ∧ PactsAt a.c_Pacts H' x kp kd (L.take i) [] ∧ (∀ y o, y ≠ x → H y = some o → H' y = some o) ∧ ∀ j < i, ∀ p, (L.map (·.2))[j]? = some p → fitsP ((L.map (·.2)).take j) p = true) ?_ ?_ ?_ ?_
    · exact ⟨⟨_, _, rfl⟩, ⟨⟨dx, hx0⟩, ⟨hp0, fun _ h => nomatch h⟩, hd0⟩, k0, fun j hj => absurd hj (Nat.not_lt_zero _)⟩
    · rintro i σ H' _ ⟨_, _, k, _⟩
      exact SqL.of (k _ _ nlx PP.ls)
    · rintro i v σ H1 H2 hi ⟨⟨u3, u4, rfl⟩, PA, k1, af⟩ ⟨t, y1, y2, rfl, ht, rfl, hy1, hy2⟩
      have hy2 : (L.map fun e => V.ref e.1)[i]? = some y2 := hy2
      rw [List.getElem?_map] at hy2
      obtain ⟨e, he, rfl⟩ := Option.map_eq_some_iff.mp hy2
      have hem := List.mem_of_getElem? he
      have s2 : Same H1 (upd H1 t (.tup [y1, .ref e.1])) := Same.upd_new ht
      have PA2 := PA.same s2
      obtain ⟨dx2, ho2⟩ := PA2.ob
      have hpe : H e.1 = _ := PP.at_ e hem
      have hpe2 : PrAt (upd H1 t (.tup [y1, .ref e.1])) (e.1, e.2) := s2 _ _ (k1 _ _ (ne_of hpe hx (by intro z; cases z)) hpe)
      have l1 : (L.take i).length ≤ 10000 := by rw [List.length_take]; omega
      have hgm : e.2 ∈ L.map (·.2) := List.mem_map.mpr ⟨e, hem, rfl⟩
      have l2 : e.2.near.length ≤ 100000 := Nat.le_trans (zP.nl _ hgm).1 (by decide)
      have l3 : e.2.far.length ≤ 100000 := Nat.le_trans (zP.nl _ hgm).2 (by decide)
      have hei : (L.map (·.2))[i]? = some e.2 := by rw [List.getElem?_map, he] <;> rfl
      cases hy1
      walk_at "go"
      intro H3 s3
      rw [List.map_take]
      cases hfit : fitsP ((L.map (·.2)).take i) e.2 with
      | false =>
        walk_at "go"
        refine (raise_err fun d H4 hd hd4 s4 => q2 i (.inr (.inl ⟨i, rfl, ⟨e.2, hei, hfit⟩, af⟩)) (by omega) d H4 ?_ hd4 fun y o n ey => s4 _ _ (s3 _ _ (s2 _ _ (k1 y o n ey)))).2
        cases yd : H d with
        | none => rfl
        | some o =>
          by_cases n : d = x
          · rw [n, s3 _ _ ho2] at hd; cases hd
          · rw [s3 _ _ (s2 _ _ (k1 d o n yd))] at hd; cases hd
      | true =>
        have PA3 := PA2.same s3
        obtain ⟨dx3, ho3⟩ := PA3.ob
        have hp3 := PA3.pr.ls
        walk_at "go"
        refine ⟨small_lt (by rw [List.length_map, List.length_take]; omega), wait ⟨⟨_, _, rfl⟩, ?_, ?_, ?_⟩⟩
        · refine ⟨⟨dx3, upd_get nxp ho3⟩, ⟨?_, fun d hd => ?_⟩, upd_get npd.symm PA3.pc⟩
          · rw [upd_same, List.take_add_one, he, List.map_append] <;> rfl
          · rw [List.take_add_one, he, Option.toList_some] at hd
            rcases List.mem_append.mp hd with z | z
            · have := PA3.pr.at_ d z
              exact upd_get (ne_of this hp3 (by intro z; cases z)) this
            · rw [List.mem_singleton.mp z]
              have h3 : PrAt H3 e := s3 _ _ hpe2
              exact upd_get (ne_of h3 hp3 (by intro z; cases z)) h3
        · intro y o n e
          exact upd_get (ne_of_none e hkp) (s3 _ _ (s2 _ _ (k1 y o n e)))
        · intro j hj p hp
          by_cases z : j = i
          · subst z
            rw [hei] at hp
            cases hp
            exact hfit
          · exact af j (by omega) p hp
    · rintro σ H1 ⟨⟨u3, u4, rfl⟩, PA, k1, af⟩
      rw [List.length_map, List.take_length] at PA
      have okP : okPs (L.map (·.2)) := fun j p hp => af j (by rw [List.length_map]; have := (List.getElem?_eq_some_iff.mp hp).1; rw [List.length_map] at this; exact this) p hp
      have hh1 := k1 _ _ nhx HH.ls
      refine stop_in ?_
      walk_at "go"
      refine wait ?_
      refine forW (walk_enum (K := K) (xs := M.map fun e => V.ref e.1)) (fun i σ H' => (∃ u3 u4 u5, σ = [some (.ref x), some (.ref pl), some (.ref hl), u3, u4, u5]) ∧ PactsH K a.c_Pacts H' x kp kd L (M.take i) ∧ (∀ y o, y ≠ x → H y = some o → H' y = some o) ∧ ∀ j < i, ∀ h, (M.map (·.2))[j]? = some h → fitsH (L.map (·.2)) ((M.map (·.2)).take j) h = true) ?_ ?_ ?_ ?_
      · exact ⟨⟨_, _, _, rfl⟩, ⟨PA, fun _ h => nomatch h⟩, k1, fun j hj => absurd hj (Nat.not_lt_zero _)⟩
      · rintro i σ H' _ ⟨_, _, k, _⟩
        exact SqL.of (k _ _ nhx HH.ls)
      · rintro i v σ H2 H3 hi ⟨⟨u3', u4', u5', rfl⟩, PH, k2, ah⟩ ⟨t, y1, y2, rfl, ht, rfl, hy1, hy2⟩
        have hy2 : (M.map fun e => V.ref e.1)[i]? = some y2 := hy2
        rw [List.getElem?_map] at hy2
        obtain ⟨e, he, rfl⟩ := Option.map_eq_some_iff.mp hy2
        have hem := List.mem_of_getElem? he
        have s3 : Same H2 (upd H2 t (.tup [y1, .ref e.1])) := Same.upd_new ht
        have PH3 := PH.same s3
        obtain ⟨dx3, ho3⟩ := PH3.pa.ob
        have tkH : TK H H2 := TK.of fun t o e n => k2 _ _ (fun z => by
          subst z
          rw [hx] at e
          cases e
          exact n True.intro) e
        have he3 : HlAt K (upd H2 t (.tup [y1, .ref e.1])) (e.1, e.2) := (HH.at_ e hem).tk (tkH.trans (TK.same s3))
        have hgm : e.2 ∈ M.map (·.2) := List.mem_map.mpr ⟨e, hem, rfl⟩
        have l0 : L.length ≤ 10000 := by omega
        have l1 : (M.take i).length ≤ 10000 := by rw [List.length_take]; omega
        have zz := zH.nl _ hgm
        have l2 : e.2.name.length ≤ 100000 := Nat.le_trans zz.1 (by decide)
        have l3 := zz.2.1
        have l4 := zz.2.2
        have hei : (M.map (·.2))[i]? = some e.2 := by rw [List.getElem?_map, he] <;> rfl
        cases hy1
        walk_at "go"
        intro H4 s4
        rw [List.map_take]
        cases hfit : fitsH (L.map (·.2)) ((M.map (·.2)).take i) e.2 with
        | false =>
          have lp4 : H4 pl = some (.lst (L.map fun e => V.ref e.1)) := s4 _ _ (s3 _ _ (k2 _ _ nlx PP.ls))
          have lml : (L.map fun e => V.ref e.1).length = (L.map (·.2)).length := by rw [List.length_map, List.length_map]
          walk_at "go"
          rw [lml]
          refine (raise_err fun d H5 hd hd5 s5 => q2 _ (.inr (.inr ⟨i, rfl, okP, ⟨e.2, hei, hfit⟩, ah⟩)) (by omega) d H5 ?_ hd5 fun y o n ey => s5 _ _ (s4 _ _ (s3 _ _ (k2 y o n ey)))).2
          cases yd : H d with
          | none => rfl
          | some o =>
            by_cases n : d = x
            · rw [n, s4 _ _ ho3] at hd; cases hd
            · rw [s4 _ _ (s3 _ _ (k2 d o n yd))] at hd; cases hd
        | true =>
          have PH4 := PH3.same s4
          obtain ⟨dx4, ho4⟩ := PH4.pa.ob
          have hd4 := PH4.pa.pc
          obtain ⟨tk, th, he4, _, _⟩ := he3.tk (TK.same s4)
          have hnew := fitsH_new hfit
          rw [← List.map_take, List.map_map] at hnew
          have hnew : e.2.name ∉ (M.take i).map fun e => e.2.name := hnew
          walk_at "go"
          refine ⟨DPut.k (k := Sum.inr e.2.name) hd4 (small_lt (by rw [hk_len, List.length_take]; omega)), ?_⟩
          rw [hk_put _ hnew]
          refine wait ⟨⟨_, _, _, rfl⟩, ⟨⟨⟨dx4, upd_get nxd ho4⟩, PH4.pa.pr.keep (fun o e => upd_get npd e) (fun t ys e => (TK.dK hd4 t).1 ys e), ?_⟩, fun d hd => ?_⟩, fun y o n e => upd_get (ne_of_none e hkd2) (s4 _ _ (s3 _ _ (k2 y o n e))), fun j hj p hp => ?_⟩
          · rw [upd_same, List.take_add_one, he, Option.toList_some, hk_snoc]
          · rw [List.take_add_one, he, Option.toList_some] at hd
            rcases List.mem_append.mp hd with z | z
            · exact (PH4.at_ d z).tk (TK.dK hd4)
            · rw [List.mem_singleton.mp z]
              exact (he3.tk (TK.same s4)).tk (TK.dK hd4)
          · by_cases z : j = i
            · subst z
              rw [hei] at hp
              cases hp
              exact hfit
            · exact ah j (by omega) p hp
      · rintro σ H2 ⟨⟨u3', u4', u5', rfl⟩, PH, k2, ah⟩
        rw [List.length_map, List.take_length] at PH
        exact q1 okP (fun j h hh => ah j (by rw [List.length_map]; have := (List.getElem?_eq_some_iff.mp hh).1; rw [List.length_map] at this; exact this) h hh) kp kd _ hkp hkd2 PH k2
theorem ok_NoHelper___init__ (T : Txt K mg a) : FnOk P w K mg base CX0 1 a.f_NoHelper___init__ a.d_NoHelper___init__ ["self", "name"] (spErr a.c_NoHelper "name") := by
  refine T.F_NoHelper___init__.ok sc_NoHelper___init__ (fun vs H Q E h => ?_) (fun cdv A outer s H vs Q E hr h => ?_)
  · obtain ⟨e, v, rfl, _⟩ := h
    rfl
  · obtain ⟨e, v, rfl, he, q⟩ := h
    refine ⟨_, pss_one (ps_ost (pv 0) (pv 1)), ?_⟩
    exact ⟨_, rfl, _, rfl, e, a.c_NoHelper, rfl, T.ox_NoHelper, T.na_NoHelper_name, .inl ⟨he, q⟩⟩
def spPact (K : PySem.W.Frag) (C N : Addr) : Sp := fun vs H Q E => ∃ (x kp kd : Addr) (L : List (Addr × Pr)) (M : List (Addr × Hl)) (n : Str), vs = [.ref x, .str n] ∧ PactsH K C H x kp kd L M ∧ (M.map fun e => e.2.name).Nodup ∧
  (∀ e ∈ M, e.2.name = n → Q (.ref e.1) H) ∧ ((∀ e ∈ M, e.2.name ≠ n) → ∀ d H', H d = none → H' d = some (.xd [("name", .str n)]) → Same H H' → E (.ref N) (some d) H')
theorem ok_Pacts_pact (T : Txt K mg a) : FnOk P w K mg base (L2.CX P w) 3 a.f_Pacts_pact a.d_Pacts_pact ["self", "name"] (spPact K a.c_Pacts a.c_NoHelper) := by
  have G_NoHelper___init__ := ok_NoHelper___init__ (P := P) (w := w) (base := base) T
  have cl_Pacts := T.cl_Pacts
  have na_Pacts_kept_pairs := T.na_Pacts_kept_pairs
  have na_Pacts_kept_pacts := T.na_Pacts_kept_pacts
  refine T.F_Pacts_pact.okX sc_Pacts_pact (fun vs H Q E h => ?_) (fun cdv A outer s H vs Q E hr h => ?_)
  · obtain ⟨x, kp, kd, L, M, n, rfl, _⟩ := h
    rfl
  · obtain ⟨x, kp, kd, L, M, n, rfl, PH, nd, q1, q2⟩ := h
    obtain ⟨dx, ho⟩ := PH.pa.ob
    by_cases hn : ∃ e ∈ M, e.2.name = n
    · obtain ⟨e, he, rfl⟩ := hn
      have hget : DGet H kd (.str e.2.name) (some (.ref e.1)) := by
        have := DGet.k (k := Sum.inr e.2.name) PH.pa.pc
        rw [hk_val nd he] at this
        exact this
      refine ⟨_, (pss_cons (ps_if (pt_cmp (pc_dnotin (hu_of hr) (pv 1) (pe_fld (pv 0) rfl))) (pss_one (ps_raise rfl (takes_of rfl rfl rfl rfl) (pmk_oex T.ox_NoHelper T.ini_NoHelper T.ti_NoHelper G_NoHelper___init__ (hr.mono (by decide)) T.b_NoHelper___init__ .nil pass0 rfl T.m_NoHelper (by exact (pa_cons (pv 1) pa_nil))))) pss_nil)
      (pss_one (ps_ret (pe_dget (hu_of hr) (pe_fld (pv 0) rfl) (pv 1) (fun _ _ => rfl))))), ?_⟩
      walk_at "go"
      exact q1 e he rfl
    · have hget : DGet H kd (.str n) none := by
        have := DGet.k (k := Sum.inr n) PH.pa.pc
        rw [hk_none fun z => hn (by obtain ⟨e, he, z⟩ := List.mem_map.mp z; exact ⟨e, he, z⟩)] at this
        exact this
      refine ⟨_, (pss_cons (ps_if (pt_cmp (pc_dnotin (hu_of hr) (pv 1) (pe_fld (pv 0) rfl))) (pss_one (ps_raise rfl (takes_of rfl rfl rfl rfl) (pmk_oex T.ox_NoHelper T.ini_NoHelper T.ti_NoHelper G_NoHelper___init__ (hr.mono (by decide)) T.b_NoHelper___init__ .nil pass0 rfl T.m_NoHelper (by exact (pa_cons (pv 1) pa_nil))))) pss_nil)
      (pss_one (ps_ret (pe_dget (hu_of hr) (pe_fld (pv 0) rfl) (pv 1) (fun _ _ => rfl))))), ?_⟩
      walk_at "go"
      exact (raise_err (q2 fun e he z => hn ⟨e, he, z⟩)).2
end
end Pf
set_option Elab.async false
set_option linter.all false
set_option maxRecDepth 100000
set_option maxHeartbeats 4000000
namespace Pf
open PySem L2
local macro_rules | `(tactic| walk_at "nz") => `(tactic| (show (_ : Int) ≠ 0; omega))
local macro_rules | `(tactic| walk_at "ne") => `(tactic| first | assumption | (apply Ne.symm; assumption))
local macro_rules | `(tactic| walk_at "hp") => `(tactic| first | assumption | exact upd_same | (refine upd_get ?_ ?_; walk_at "ne"; walk_at "hp"))
local macro_rules | `(tactic| walk_at "sd") => `(tactic| first
  | (with_reducible show (_ : Int) < _; omega)
  | (with_reducible show (_ : Int) ≤ _; omega)
  | (with_reducible show (_ : Nat) < _; omega)
  | (with_reducible show (_ : Nat) ≤ _; omega)
  | rfl
  | assumption
  | exact kV_int _
  | exact kV_str _
  | (show (_ : Int) ≠ 0; omega)
  | exact SqL.of (by walk_at "hp")
  | exact ⟨_, SqL.of (by walk_at "hp")⟩
  | exact ⟨_, SqT.of (by walk_at "hp")⟩
  | exact ⟨_, (by assumption)⟩
  | exact SqT.of (by walk_at "hp")
  | exact Rd.of (by walk_at "hp")
  | exact Or.inl (SqL.of (by walk_at "hp"))
  | exact Or.inr (SqT.of (by walk_at "hp"))
  | exact Or.inr (by assumption)
  | (walk_at "hp")
  | (exact Or.inl ⟨rfl, _, SqL.of (by walk_at "hp")⟩)
  | (exact Or.inl ⟨by omega, by omega⟩)
  | (exact Or.inr ⟨by omega, by omega⟩)
  | (refine ⟨?_, ?_, ?_⟩ <;> omega)
  | omega
  | (exact small_le (by first | omega | (simp only [List.length_cons, List.length_nil]; omega)))
  | (exact small_lt (by first | omega | (simp only [List.length_cons, List.length_nil]; omega)))
  | exact Nat.le_of_ble_eq_true rfl
  | exact ⟨_, rfl⟩
  | decide)
local macro_rules | `(tactic| walk_at "st") => `(tactic| first
  | with_reducible refine sq_seq ?_
  | apply Exists.intro
  | (refine And.intro ?_ ?_; (walk_at "sd")))
local macro_rules | `(tactic| walk_at "go") => `(tactic| repeat (walk_at "st"))
section
variable {P : Program} {w : World} {K : PySem.W.Frag} {mg : Str → Option Value} {base : Heap} {a : Ad}
/-! ### data: texts, pairs, helpers (lines of law03*.tmpl) -/
/-! ### lists of any texts -/
structure SW (w : Str) : Prop where
  len : w.length ≤ 10000
  ok : PyData.strOk w = true
theorem IsName.ok {w : Str} (h : IsName w) : PyData.strOk w = true := by
  unfold PyData.strOk
  rw [← Array.all_toList, List.all_eq_true]
  intro c hc
  have := h.cs c hc
  exact decide_eq_true (by omega)
theorem IsName.sw {w : Str} (h : IsName w) : SW w := ⟨Nat.le_trans h.hi (by decide), h.ok⟩
structure XP (n : Nat) (ps : List Pr) : Prop where
  len : ps.length ≤ n
  sw : ∀ p ∈ ps, SW p.near ∧ SW p.far
structure XH (n : Nat) (hs : List Hl) : Prop where
  len : hs.length ≤ n
  sw : ∀ h ∈ hs, SW h.name ∧ h.takes.length ≤ n ∧ h.throws.length ≤ n ∧ (∀ w ∈ h.takes, SW w) ∧ ∀ w ∈ h.throws, SW w
theorem XP.sz {n : Nat} {ps : List Pr} (h : XP n ps) (hn : n ≤ 1000) : SzP ps := ⟨by have := h.len; omega, fun p hp => ⟨Nat.le_trans (h.sw p hp).1.len (by decide), Nat.le_trans (h.sw p hp).2.len (by decide)⟩⟩
theorem XH.sz {n : Nat} {hs : List Hl} (h : XH n hs) (hn : n ≤ 1000) : SzH hs := ⟨by have := h.len; omega, fun p hp => ⟨Nat.le_trans (h.sw p hp).1.len (by decide), by have := (h.sw p hp).2.1; omega, by have := (h.sw p hp).2.2.1; omega⟩⟩
abbrev odds : List Str := ["", "abcdefghi", "Ab", "a1", "a b", "-", "lent", "q"]
theorem sw_dec {w : Str} (h : (decide (w.length ≤ 10000) && PyData.strOk w) = true) : SW w := by
  rw [Bool.and_eq_true] at h
  exact ⟨of_decide_eq_true h.1, h.2⟩
theorem sw_all {ws : List Str} (h : (ws.all fun w => decide (w.length ≤ 10000) && PyData.strOk w) = true) : ∀ w ∈ ws, SW w := fun w hw => sw_dec (List.all_eq_true.mp h w hw)
theorem odds_sw : ∀ w ∈ odds, SW w := sw_all (by decide +kernel)
theorem strs_at' {ws : List Str} {r : Int} (h0 : 0 ≤ r) (h1 : r < (ws.length : Int)) : ∃ w, atI (ws.map V.str) r = some (.str w) ∧ w ∈ ws := by
  obtain ⟨v, e1, e2⟩ := atI_in (xs := ws.map V.str) h0 (by rw [List.length_map]; exact h1)
  rw [List.getElem?_map] at e2
  obtain ⟨w, hw, rfl⟩ := Option.map_eq_some_iff.mp e2
  exact ⟨w, e1, List.mem_of_getElem? hw⟩
theorem XP.mem {n : Nat} {L : List (Addr × Pr)} (h : XP n (L.map (·.2))) {e : Addr × Pr} (he : e ∈ L) : SW e.2.near ∧ SW e.2.far := h.sw _ (List.mem_map.mpr ⟨e, he, rfl⟩)
theorem pairs_at {L : List (Addr × Pr)} {r : Int} (h0 : 0 ≤ r) (h1 : r < (L.length : Int)) : ∃ e, atI (L.map fun e => V.ref e.1) r = some (.ref e.1) ∧ L[r.toNat]? = some e := by
  obtain ⟨v, e1, e2⟩ := atI_in (xs := L.map fun e => V.ref e.1) h0 (by rw [List.length_map]; exact h1)
  rw [List.getElem?_map] at e2
  obtain ⟨e, he, rfl⟩ := Option.map_eq_some_iff.mp e2
  exact ⟨e, e1, he⟩
theorem cutV_fromI (xs : List V) {r : Int} (h : 0 ≤ r) : cutV xs (some r) none = xs.drop r.toNat := by
  obtain ⟨k, rfl⟩ : ∃ k : Nat, r = k := ⟨r.toNat, by omega⟩
  exact cutV_from xs k
theorem cutV_toI (xs : List V) {r : Int} (h : 0 ≤ r) : cutV xs none (some r) = xs.take r.toNat := by
  obtain ⟨k, rfl⟩ : ∃ k : Nat, r = k := ⟨r.toNat, by omega⟩
  exact cutV_to xs k
theorem nodup_by {ws : List Str} (h : ∀ j w, ws[j]? = some w → w ∉ ws.take j) : ws.Nodup := by
  rw [List.nodup_iff_pairwise_ne, List.pairwise_iff_getElem]
  intro i j hi hj lt e
  refine h j ws[j] (List.getElem?_eq_getElem hj) ?_
  rw [← e]
  exact List.mem_take_iff_getElem.mpr ⟨i, by omega, rfl⟩
theorem not_nodup {ws : List Str} {j : Nat} {w : Str} (h : ws[j]? = some w) (hm : w ∈ ws.take j) : ¬ ws.Nodup := by
  intro nd
  rw [List.nodup_iff_pairwise_ne, List.pairwise_iff_getElem] at nd
  obtain ⟨i, hi, e⟩ := List.mem_take_iff_getElem.mp hm
  obtain ⟨hj, e2⟩ := List.getElem?_eq_some_iff.mp h
  exact nd i j (by omega) hj (by omega) (by rw [e, e2])
theorem slA_of {K : PySem.W.Frag} {a : Addr} {xs : List V} {lo hi : Option Int} {H : Hp} {Q : VK} (ha : SqT K H a xs) (q : ∀ r H', Same H H' → SqT K H' r (cutV xs lo hi) → Q (.ref r) H') : rSlA K (.ref a) lo hi H Q := by
  refine ⟨a, xs, rfl, ha, fun e => q a H (fun _ _ e => e) ?_, fun _ p hp => q p _ (Same.upd_new hp) (SqT.of upd_same)⟩
  unfold cutV
  rw [e.1, e.2, List.drop_zero, Nat.sub_zero, List.take_length]
  exact ha
theorem catA_of {K : PySem.W.Frag} {a b : Addr} {xs ys : List V} {H : Hp} {Q : VK} (ha : SqT K H a xs) (hb : SqT K H b ys) (hz : xs.length + ys.length ≤ sizeLine) (q : ∀ r H', Same H H' → SqT K H' r (xs ++ ys) → Q (.ref r) H') : rCatA K (.ref a) (.ref b) H Q := by
  refine ⟨a, b, xs, ys, rfl, rfl, ha, hb, hz, fun e => q b H (fun _ _ e => e) ?_, fun _ e => q a H (fun _ _ e => e) ?_, fun _ _ p hp => q p _ (Same.upd_new hp) (SqT.of upd_same)⟩
  · rw [e]; exact hb
  · rw [e, List.append_nil]; exact ha
theorem FitsH.cons {ps : List Pr} {hs : List Hl} {h : Hl} (c1 : nameB h.name = true) (c2 : h.name ∉ hs.map (·.name)) (c3 : h.side = 0 ∨ h.side = 1) (c4 : (hs.filter fun k => decide (k.side = h.side)).length ≠ 4) (c5 : h.takes.length ≤ 3) (c6 : h.throws.length ≤ 4) :
    fitsH ps hs h = ((h.takes.all fun w => decide (w ∈ hows)) && decide h.throws.Nodup && h.throws.all fun w => decide (w ∈ ps.map (·.word h.side))) := by
  unfold fitsH
  rw [c1, decide_eq_true c2, decide_eq_true c3, decide_eq_true c4, decide_eq_true c5, decide_eq_true c6] <;> rfl
def cutL (ws : List Str) (lo hi : Option Int) : List Str := (ws.drop (HT.sIx ws.length 0 lo)).take (HT.sIx ws.length ws.length hi - HT.sIx ws.length 0 lo)
theorem cutV_strs (ws : List Str) (lo hi : Option Int) : cutV (ws.map V.str) lo hi = (cutL ws lo hi).map V.str := by
  unfold cutV cutL
  rw [List.length_map, List.map_take, List.map_drop]
theorem cutL_mem {ws : List Str} {lo hi : Option Int} {w : Str} (h : w ∈ cutL ws lo hi) : w ∈ ws := List.mem_of_mem_drop (List.mem_of_mem_take h)
theorem cutL_len (ws : List Str) (lo hi : Option Int) : (cutL ws lo hi).length ≤ ws.length := by
  unfold cutL
  rw [List.length_take, List.length_drop]
  omega
theorem helpers_at {M : List (Addr × Hl)} {r : Int} (h0 : 0 ≤ r) (h1 : r < (M.length : Int)) : ∃ e, atI (M.map fun e => V.ref e.1) r = some (.ref e.1) ∧ M[r.toNat]? = some e := by
  obtain ⟨v, e1, e2⟩ := atI_in (xs := M.map fun e => V.ref e.1) h0 (by rw [List.length_map]; exact h1)
  rw [List.getElem?_map] at e2
  obtain ⟨e, he, rfl⟩ := Option.map_eq_some_iff.mp e2
  exact ⟨e, e1, he⟩
theorem XH.mem {n : Nat} {M : List (Addr × Hl)} (h : XH n (M.map (·.2))) {e : Addr × Hl} (he : e ∈ M) : SW e.2.name ∧ e.2.takes.length ≤ n ∧ e.2.throws.length ≤ n ∧ (∀ w ∈ e.2.takes, SW w) ∧ ∀ w ∈ e.2.throws, SW w := h.sw _ (List.mem_map.mpr ⟨e, he, rfl⟩)
def prD (p : Pr) : PyData := .tuple [.str p.near, .str p.far, .bool p.laden]
def strsD (ws : List Str) : PyData := .tuple (ws.map PyData.str)
def hlD (h : Hl) : PyData := .tuple [.str h.name, .int h.side, strsD h.takes, .bool h.gives, strsD h.throws]
theorem lay_strs : ∀ {ws : List Str}, (∀ w ∈ ws, SW w) → PyData.canLayAll0 (ws.map PyData.str) = true
  | [], _ => rfl
  | w :: r, h => by
    show (PyData.strOk w && PyData.canLayAll0 (r.map PyData.str)) = true
    rw [(h w List.mem_cons_self).ok, lay_strs fun q hq => h q (List.mem_cons_of_mem _ hq)] <;> rfl
theorem depth_strs : ∀ ws : List Str, PyData.depthAll (ws.map PyData.str) = 0
  | [] => rfl
  | w :: r => by
    show max 0 (PyData.depthAll (r.map PyData.str)) = 0
    rw [depth_strs r] <;> rfl
theorem lay_prs : ∀ {ps : List Pr}, (∀ p ∈ ps, SW p.near ∧ SW p.far) → PyData.canLayAll0 (ps.map prD) = true
  | [], _ => rfl
  | p :: r, h => by
    show ((PyData.strOk p.near && (PyData.strOk p.far && (true && true))) && PyData.canLayAll0 (r.map prD)) = true
    rw [(h p List.mem_cons_self).1.ok, (h p List.mem_cons_self).2.ok, lay_prs fun q hq => h q (List.mem_cons_of_mem _ hq)] <;> rfl
theorem depth_prs : ∀ ps : List Pr, PyData.depthAll (ps.map prD) ≤ 1
  | [] => Nat.zero_le _
  | p :: r => by
    show max (PyData.depth (prD p)) (PyData.depthAll (r.map prD)) ≤ 1
    have := depth_prs r
    have e : PyData.depth (prD p) = 1 := rfl
    omega
abbrev HW (h : Hl) : Prop := SW h.name ∧ (∀ w ∈ h.takes, SW w) ∧ ∀ w ∈ h.throws, SW w
theorem lay_hl {h : Hl} (hw : HW h) : PyData.canLay0 (hlD h) = true := by
  show (PyData.strOk h.name && (true && (PyData.canLayAll0 (h.takes.map PyData.str) && (true && (PyData.canLayAll0 (h.throws.map PyData.str) && true))))) = true
  rw [hw.1.ok, lay_strs hw.2.1, lay_strs hw.2.2] <;> rfl
theorem depth_hl (h : Hl) : PyData.depth (hlD h) ≤ 2 := by
  show max 0 (max 0 (max (PyData.depthAll (h.takes.map PyData.str) + 1) (max 0 (max (PyData.depthAll (h.throws.map PyData.str) + 1) 0)))) + 1 ≤ 2
  rw [depth_strs, depth_strs] <;> decide
theorem lay_hls : ∀ {hs : List Hl}, (∀ h ∈ hs, HW h) → PyData.canLayAll0 (hs.map hlD) = true
  | [], _ => rfl
  | p :: r, h => by
    show (PyData.canLay0 (hlD p) && PyData.canLayAll0 (r.map hlD)) = true
    rw [lay_hl (h p List.mem_cons_self), lay_hls fun q hq => h q (List.mem_cons_of_mem _ hq)] <;> rfl
theorem depth_hls : ∀ hs : List Hl, PyData.depthAll (hs.map hlD) ≤ 2
  | [] => Nat.zero_le _
  | p :: r => by
    show max (PyData.depth (hlD p)) (PyData.depthAll (r.map hlD)) ≤ 2
    have := depth_hls r
    have := depth_hl p
    omega
theorem shaped_prs {ps : List Pr} (h : ∀ p ∈ ps, SW p.near ∧ SW p.far) : SeqAt.shaped (.list (ps.map prD)) = true := by
  unfold SeqAt.shaped
  rw [Bool.and_eq_true]
  refine ⟨lay_prs h, decide_eq_true ?_⟩
  show PyData.depthAll (ps.map prD) + 1 ≤ 64
  have := depth_prs ps
  omega
theorem shaped_hl {h : Hl} (hw : HW h) : SeqAt.shaped (hlD h) = true := by
  unfold SeqAt.shaped
  rw [Bool.and_eq_true]
  exact ⟨lay_hl hw, decide_eq_true (Nat.le_trans (depth_hl h) (by decide))⟩
theorem shaped_both {ps : List Pr} {hs : List Hl} (h1 : ∀ p ∈ ps, SW p.near ∧ SW p.far) (h2 : ∀ h ∈ hs, HW h) : SeqAt.shaped (.list [.list (ps.map prD), .list (hs.map hlD)]) = true := by
  unfold SeqAt.shaped
  rw [Bool.and_eq_true]
  refine ⟨?_, decide_eq_true ?_⟩
  · show (PyData.canLayAll0 (ps.map prD) && (PyData.canLayAll0 (hs.map hlD) && true)) = true
    rw [lay_prs h1, lay_hls h2] <;> rfl
  · show max (PyData.depthAll (ps.map prD) + 1) (max (PyData.depthAll (hs.map hlD) + 1) 0) + 1 ≤ 64
    have := depth_prs ps
    have := depth_hls hs
    omega
theorem dp_strs {K : PySem.W.Frag} {H : Hp} : ∀ ws : List Str, DpAll K H (ws.map V.str) (ws.map PyData.str)
  | [] => .nil
  | w :: r => .cons (.str w) (dp_strs r)
theorem dp_prs {K : PySem.W.Frag} {H : Hp} : ∀ {L : List (Addr × Pr)}, (∀ e ∈ L, PrAt H e) → DpAll K H (L.map fun e => V.ref e.1) ((L.map (·.2)).map prD)
  | [], _ => .nil
  | e :: r, h => .cons (.tup (SqT.of (h e List.mem_cons_self)) (.cons (.str _) (.cons (.str _) (.cons (.bl _) .nil)))) (dp_prs fun d hd => h d (List.mem_cons_of_mem _ hd))
theorem HlAt.dp {K : PySem.W.Frag} {H : Hp} {e : Addr × Hl} (h : HlAt K H e) : Dp K H (.ref e.1) (hlD e.2) := by
  obtain ⟨tk, th, h1, h2, h3⟩ := h
  exact .tup (SqT.of h1) (.cons (.str _) (.cons (.int _) (.cons (.tup h2 (dp_strs _)) (.cons (.bl _) (.cons (.tup h3 (dp_strs _)) .nil)))))
theorem dp_hls {K : PySem.W.Frag} {H : Hp} : ∀ {M : List (Addr × Hl)}, (∀ e ∈ M, HlAt K H e) → DpAll K H (M.map fun e => V.ref e.1) ((M.map (·.2)).map hlD)
  | [], _ => .nil
  | e :: r, h => .cons (h e List.mem_cons_self).dp (dp_hls fun d hd => h d (List.mem_cons_of_mem _ hd))
theorem PairsAt.dp {K : PySem.W.Frag} {H : Hp} {D : Addr} {L : List (Addr × Pr)} (h : PairsAt H D L) : Dp K H (.ref D) (.list ((L.map (·.2)).map prD)) := .lst (SqL.of h.ls) (dp_prs h.at_)
theorem HelpersAt.dp {K : PySem.W.Frag} {H : Hp} {D : Addr} {M : List (Addr × Hl)} (h : HelpersAt K H D M) : Dp K H (.ref D) (.list ((M.map (·.2)).map hlD)) := .lst (SqL.of h.ls) (dp_hls h.at_)
theorem okHs_nodup {ps : List Pr} {hs : List Hl} (h : okHs ps hs) : (hs.map (·.name)).Nodup := nodup_by fun j w hw => by
  rw [List.getElem?_map] at hw
  obtain ⟨k, hk, rfl⟩ := Option.map_eq_some_iff.mp hw
  rw [← List.map_take]
  exact fitsH_new (h j k hk)
theorem Good.xp {ps : List Pr} (G : Good ps) : XP 8 ps := ⟨Nat.le_trans G.len (by decide), fun p hp => ⟨(G.kn p hp).sw, (G.kf p hp).sw⟩⟩
theorem hows_sw : ∀ w ∈ hows, SW w := sw_all (by decide +kernel)
theorem GoodH.xh {ps : List Pr} {hs : List Hl} (G : Good ps) (GH : GoodH ps hs) : XH 8 hs := by
  refine ⟨GH.len, fun h hh => ⟨(GH.nm h hh).sw, Nat.le_trans (GH.ok h hh).tl (by decide), Nat.le_trans (GH.ok h hh).hl (by decide), fun w hw => hows_sw w ((GH.ok h hh).tk w hw), fun w hw => ?_⟩⟩
  obtain ⟨p, hp, rfl⟩ := List.mem_map.mp ((GH.ok h hh).hw w hw)
  unfold Pr.word
  split
  · exact (G.kn p hp).sw
  · exact (G.kf p hp).sw
theorem XP.up {n m : Nat} {ps : List Pr} (h : XP n ps) (e : n ≤ m) : XP m ps := ⟨Nat.le_trans h.len e, h.sw⟩
theorem XH.up {n m : Nat} {hs : List Hl} (h : XH n hs) (e : n ≤ m) : XH m hs := ⟨Nat.le_trans h.len e, fun x hx => ⟨(h.sw x hx).1, Nat.le_trans (h.sw x hx).2.1 e, Nat.le_trans (h.sw x hx).2.2.1 e, (h.sw x hx).2.2.2⟩⟩
/-! ### which errors are told -/
theorem filter_one {α : Type} {f : α → Str} : ∀ {l : List α}, (l.map f).Nodup → ∀ {e : α}, e ∈ l → l.filter (fun d => decide (f d = f e)) = [e]
  | [], _, _, h => by cases h
  | d :: r, hn, e, h => by
    rw [List.map_cons, List.nodup_cons] at hn
    by_cases q : f d = f e
    · have hr : r.filter (fun x => decide (f x = f e)) = [] := by
        rw [List.filter_eq_nil_iff]
        intro x hx z
        exact hn.1 (by rw [q, ← of_decide_eq_true z]; exact List.mem_map.mpr ⟨x, hx, rfl⟩)
      have hd : d = e := by
        rcases List.mem_cons.mp h with z | z
        · exact z.symm
        · exact absurd (q ▸ List.mem_map.mpr ⟨e, z, rfl⟩ : f d ∈ r.map f) hn.1
      rw [List.filter_cons_of_pos (by simp [q]), hr, hd]
    · rw [List.filter_cons_of_neg (by simp [q])]
      rcases List.mem_cons.mp h with z | z
      · exact absurd (by rw [z]) q
      · exact filter_one hn.2 z
def crossed (ps : List Pr) (h : Hl) (s : Int) : List Str := h.throws.flatMap fun w => (ps.filter fun p => decide (p.word h.side = w)).map (·.word s)
theorem Good.words {ps : List Pr} (G : Good ps) {s : Int} (hs : s = 0 ∨ s = 1) : (ps.map (·.word s)).Nodup := by
  rcases hs with rfl | rfl
  · exact G.nn
  · exact G.nf
theorem flat_map {α β : Type} {f : α → List β} {g : α → β} : ∀ {l : List α}, (∀ x ∈ l, f x = [g x]) → l.flatMap f = l.map g
  | [], _ => rfl
  | x :: r, h => by
    rw [List.flatMap_cons, h x List.mem_cons_self, flat_map fun y hy => h y (List.mem_cons_of_mem _ hy)] <;> rfl
theorem crossed_own {ps : List Pr} {h : Hl} (G : Good ps) (O : HOk ps h) : crossed ps h h.side = h.throws := by
  unfold crossed
  rw [flat_map (g := fun w => w), List.map_id']
  intro w hw
  obtain ⟨p, hp, rfl⟩ := List.mem_map.mp (O.hw w hw)
  rw [filter_one (f := fun p : Pr => p.word h.side) (G.words O.sd) hp] <;> rfl
/-- the word over there -/
def overW (ps : List Pr) (s : Int) (w : Str) : Str := ((ps.filter fun p => decide (p.word s = w)).map (·.word (1 - s))).headD w
theorem over_of {ps : List Pr} (G : Good ps) {s : Int} (hs : s = 0 ∨ s = 1) {p : Pr} (hp : p ∈ ps) : overW ps s (p.word s) = p.word (1 - s) := by
  unfold overW
  rw [filter_one (f := fun p : Pr => p.word s) (G.words hs) hp] <;> rfl
theorem crossed_over {ps : List Pr} {h : Hl} (G : Good ps) (O : HOk ps h) {s : Int} (hs : s = 1 - h.side) : crossed ps h s = h.throws.map (overW ps h.side) := by
  subst hs
  unfold crossed
  refine flat_map fun w hw => ?_
  obtain ⟨p, hp, rfl⟩ := List.mem_map.mp (O.hw w hw)
  rw [over_of G O.sd hp, filter_one (f := fun p : Pr => p.word h.side) (G.words O.sd) hp] <;> rfl
/-! ### a line tells its pact -/
def htail (g : Bool) (zs : List Str) : List Str := (if g = true then (["gives"] : List Str) else []) ++ (if 0 < zs.length then (["throws"] : List Str) ++ zs else [])
def hwords (h : Hl) : List Str := (["helper", h.name, Str.ofString (toString h.side)] : List Str) ++ h.takes ++ htail h.gives h.throws
def hline (h : Hl) : Str := Txt.join " " (hwords h)
def noB (w : Str) : Prop := 32 ∉ w.cps.toList
structure WfH (h : Hl) : Prop where
  nm : IsName h.name
  sd : h.side = 0 ∨ h.side = 1
  tk : ∀ w ∈ h.takes, w ∈ hows
  th : ∀ w ∈ h.throws, IsName w
theorem IsName.noB {w : Str} (h : IsName w) : noB w := fun z => by
  have := h.cs _ z
  omega
theorem noB_all {ws : List Str} (h : (ws.all fun w => w.cps.toList.all fun c => decide (c ≠ 32)) = true) : ∀ w ∈ ws, noB w := fun w hw z => by
  have h1 := List.all_eq_true.mp h w hw
  exact of_decide_eq_true (List.all_eq_true.mp h1 _ z) rfl
theorem marks_noB : ∀ w ∈ (["helper", "gives", "throws", "lent", "given", Str.ofString (toString (0 : Int)), Str.ofString (toString (1 : Int))] : List Str), noB w := noB_all (by decide +kernel)
theorem side_noB {s : Int} (h : s = 0 ∨ s = 1) : noB (Str.ofString (toString s)) := by
  rcases h with rfl | rfl
  · exact marks_noB _ (by simp)
  · exact marks_noB _ (by simp)
theorem hwords_noB {h : Hl} (W : WfH h) : ∀ w ∈ hwords h, noB w := by
  intro w hw
  unfold hwords htail at hw
  rcases List.mem_append.mp hw with z | z
  · rcases List.mem_append.mp z with y | y
    · rcases List.mem_cons.mp y with rfl | y
      · exact marks_noB _ (by simp)
      · rcases List.mem_cons.mp y with rfl | y
        · exact W.nm.noB
        · rw [List.mem_singleton.mp y]
          exact side_noB W.sd
    · have := W.tk w y
      unfold hows at this
      rcases List.mem_cons.mp this with rfl | q
      · exact marks_noB _ (by simp)
      · rw [List.mem_singleton.mp q]
        exact marks_noB _ (by simp)
  · rcases List.mem_append.mp z with y | y
    · split at y
      · rw [List.mem_singleton.mp y]
        exact marks_noB _ (by simp)
      · cases y
    · split at y
      · rcases List.mem_append.mp y with q | q
        · rw [List.mem_singleton.mp q]
          exact marks_noB _ (by simp)
        · exact (W.th w q).noB
      · cases y
theorem tl_inj {x y : Str} (h : TL.tl x = TL.tl y) : x = y := by
  obtain ⟨a⟩ := x
  obtain ⟨b⟩ := y
  have : a.toList = b.toList := h
  rw [Array.toList_inj.mp this]
theorem join_inj {xs ys : List Str} (h1 : xs ≠ []) (h2 : ys ≠ []) (n1 : ∀ w ∈ xs, noB w) (n2 : ∀ w ∈ ys, noB w) (h : Txt.join " " xs = Txt.join " " ys) : xs = ys := by
  rw [TL.join_eq, TL.join_eq] at h
  have h3 := congrArg TL.tl h
  rw [TL.tl_join, TL.tl_join] at h3
  have e0 : TL.tl (" " : Str) = [32] := by decide +kernel
  rw [e0] at h3
  have e1 := TL.spl_join (s := 32) (S := []) (parts := xs.map TL.tl) (by simpa using h1) (fun p hp => by
    obtain ⟨w, hw, rfl⟩ := List.mem_map.mp hp
    exact n1 w hw)
  have e2 := TL.spl_join (s := 32) (S := []) (parts := ys.map TL.tl) (by simpa using h2) (fun p hp => by
    obtain ⟨w, hw, rfl⟩ := List.mem_map.mp hp
    exact n2 w hw)
  rw [h3, e2] at e1
  exact (List.map_inj_right (fun x y h => tl_inj h)).mp e1.symm
theorem span_inj {p : Str → Prop} : ∀ {t1 t2 r1 r2 : List Str}, (∀ w ∈ t1, p w) → (∀ w ∈ t2, p w) → (∀ w, r1.head? = some w → ¬ p w) → (∀ w, r2.head? = some w → ¬ p w) → t1 ++ r1 = t2 ++ r2 → t1 = t2 ∧ r1 = r2
  | [], [], _, _, _, _, _, _, e => ⟨rfl, e⟩
  | [], b :: t2, r1, r2, _, h2, g1, _, e => by
    have e : r1 = b :: (t2 ++ r2) := e
    exact absurd (h2 b List.mem_cons_self) (g1 b (by rw [e] <;> rfl))
  | a :: t1, [], r1, r2, h1, _, _, g2, e => by
    have e : a :: (t1 ++ r1) = r2 := e
    exact absurd (h1 a List.mem_cons_self) (g2 a (by rw [← e] <;> rfl))
  | a :: t1, b :: t2, r1, r2, h1, h2, g1, g2, e => by
    have e : a :: (t1 ++ r1) = b :: (t2 ++ r2) := e
    have e1 := List.cons.inj e
    have := span_inj (fun w hw => h1 w (List.mem_cons_of_mem _ hw)) (fun w hw => h2 w (List.mem_cons_of_mem _ hw)) g1 g2 e1.2
    exact ⟨by rw [e1.1, this.1], this.2⟩
theorem mark_ne : ("gives" : Str) ≠ "throws" := by decide +kernel
theorem gives_no : ("gives" : Str) ∉ hows := by decide +kernel
theorem throws_no : ("throws" : Str) ∉ hows := by decide +kernel
theorem thr_inj {z1 z2 : List Str} (h : (if 0 < z1.length then (["throws"] : List Str) ++ z1 else []) = (if 0 < z2.length then (["throws"] : List Str) ++ z2 else [])) : z1 = z2 := by
  cases z1 with
  | nil =>
    cases z2 with
    | nil => rfl
    | cons b r => cases h
  | cons a q =>
    cases z2 with
    | nil => cases h
    | cons b r => exact (List.cons.inj h).2
theorem htail_inj {g1 g2 : Bool} {z1 z2 : List Str} (h : htail g1 z1 = htail g2 z2) : g1 = g2 ∧ z1 = z2 := by
  unfold htail at h
  have bad : ∀ z1 z2 : List Str, (["gives"] : List Str) ++ (if 0 < z1.length then (["throws"] : List Str) ++ z1 else []) ≠ [] ++ (if 0 < z2.length then (["throws"] : List Str) ++ z2 else []) := by
    intro z1 z2 e
    cases z2 with
    | nil => cases e
    | cons b r => exact mark_ne (List.cons.inj e).1
  cases g1 with
  | true =>
    cases g2 with
    | true => exact ⟨rfl, thr_inj (List.cons.inj h).2⟩
    | false => exact absurd h (bad z1 z2)
  | false =>
    cases g2 with
    | true => exact absurd h.symm (bad z2 z1)
    | false => exact ⟨rfl, thr_inj h⟩
theorem htail_head (g : Bool) (zs : List Str) : ∀ w, (htail g zs).head? = some w → ¬ w ∈ hows := by
  intro w h
  unfold htail at h
  cases g with
  | true =>
    have h : some ("gives" : Str) = some w := h
    rw [← Option.some.inj h]
    exact gives_no
  | false =>
    cases zs with
    | nil => cases h
    | cons z r =>
      have h : some ("throws" : Str) = some w := h
      rw [← Option.some.inj h]
      exact throws_no
theorem side_inj {a b : Int} (ha : a = 0 ∨ a = 1) (hb : b = 0 ∨ b = 1) (h : Str.ofString (toString a) = Str.ofString (toString b)) : a = b := by
  have n : Str.ofString (toString (0 : Int)) ≠ Str.ofString (toString (1 : Int)) := by decide +kernel
  rcases ha with rfl | rfl <;> rcases hb with rfl | rfl
  · rfl
  · exact absurd h n
  · exact absurd h.symm n
  · rfl
theorem hline_inj {x y : Hl} (wx : WfH x) (wy : WfH y) (h : hline x = hline y) : x = y := by
  have e := join_inj (by unfold hwords; simp) (by unfold hwords; simp) (hwords_noB wx) (hwords_noB wy) h
  unfold hwords at e
  rw [List.append_assoc, List.append_assoc] at e
  have e1 := List.cons.inj e
  have e2 := List.cons.inj e1.2
  have e3 := List.cons.inj e2.2
  have e4 := span_inj (p := fun w => w ∈ hows) wx.tk wy.tk (htail_head _ _) (htail_head _ _) e3.2
  have e5 := htail_inj e4.2
  have e6 := side_inj wx.sd wy.sd e3.1
  obtain ⟨n1, s1, t1, g1, z1⟩ := x
  obtain ⟨n2, s2, t2, g2, z2⟩ := y
  have a1 : n1 = n2 := e2.1
  have a2 : s1 = s2 := e6
  have a3 : t1 = t2 := e4.1
  have a4 : g1 = g2 := e5.1
  have a5 : z1 = z2 := e5.2
  rw [a1, a2, a3, a4, a5]
theorem GoodH.wf {ps : List Pr} {hs : List Hl} (G : Good ps) (GH : GoodH ps hs) : ∀ h ∈ hs, WfH h := fun h hh => ⟨GH.nm h hh, (GH.ok h hh).sd, (GH.ok h hh).tk, fun w hw => by
  obtain ⟨p, hp, rfl⟩ := List.mem_map.mp ((GH.ok h hh).hw w hw)
  unfold Pr.word
  split
  · exact G.kn p hp
  · exact G.kf p hp⟩
theorem lines_inj : ∀ {xs ys : List Hl}, (∀ h ∈ xs, WfH h) → (∀ h ∈ ys, WfH h) → xs.map hline = ys.map hline → xs = ys
  | [], [], _, _, _ => rfl
  | [], y :: r, _, _, e => by cases e
  | x :: q, [], _, _, e => by cases e
  | x :: q, y :: r, h1, h2, e => by
    have e1 := List.cons.inj e
    rw [hline_inj (h1 x List.mem_cons_self) (h2 y List.mem_cons_self) e1.1, lines_inj (fun h hh => h1 h (List.mem_cons_of_mem _ hh)) (fun h hh => h2 h (List.mem_cons_of_mem _ hh)) e1.2]
/-! ### lists that fit -/
theorem Good.okPs {ps : List Pr} (G : Good ps) : okPs ps := fun _ _ h => good_fits G h
theorem GoodH.okHs {ps : List Pr} {hs : List Hl} (GH : GoodH ps hs) : okHs ps hs := fun i h hi => by
  have hm := List.mem_of_getElem? hi
  have hlt := (List.getElem?_eq_some_iff.mp hi).1
  have hsplit : hs = hs.take i ++ h :: hs.drop (i + 1) := by
    have := List.take_append_drop i hs
    rw [List.drop_eq_getElem_cons hlt, (List.getElem?_eq_some_iff.mp hi).2] at this
    exact this.symm
  have nd := GH.nd
  have few := GH.few h.side
  rw [hsplit, List.map_append, List.nodup_append] at nd
  rw [hsplit, List.filter_append, List.length_append, List.filter_cons_of_pos (by simp), List.length_cons] at few
  have O := GH.ok h hm
  rw [FitsH.cons (nameB_iff.mpr (GH.nm h hm)) (fun z => nd.2.2 _ z _ (by rw [List.map_cons]; exact List.mem_cons_self) rfl) O.sd (by omega) O.tl O.hl, Bool.and_eq_true, Bool.and_eq_true, List.all_eq_true, List.all_eq_true]
  exact ⟨⟨fun w hw => decide_eq_true (O.tk w hw), decide_eq_true O.hn⟩, fun w hw => decide_eq_true (O.hw w hw)⟩
/-- the lists with one thing otherwise: still pacts, other ones -/
structure Oth (ps : List Pr) (hs : List Hl) (ps' : List Pr) (hs' : List Hl) : Prop where
  g : Good ps'
  gh : GoodH ps' hs'
  un : ps' ≠ ps ∨ hs' ≠ hs
theorem GoodH.perm {ps : List Pr} {hs hs' : List Hl} (GH : GoodH ps hs) (p : hs'.Perm hs) : GoodH ps hs' :=
  ⟨fun h hh => GH.ok h (p.mem_iff.mp hh), (p.map _).nodup_iff.mpr GH.nd, fun h hh => GH.nm h (p.mem_iff.mp hh), fun s => by rw [(p.filter _).length_eq]; exact GH.few s, by rw [p.length_eq]; exact GH.len⟩
theorem GoodH.sub {ps : List Pr} {hs hs' : List Hl} (GH : GoodH ps hs) (p : hs'.Sublist hs) : GoodH ps hs' :=
  ⟨fun h hh => GH.ok h (p.subset hh), (p.map _).nodup GH.nd, fun h hh => GH.nm h (p.subset hh), fun s => Nat.le_trans (p.filter _).length_le (GH.few s), Nat.le_trans p.length_le GH.len⟩
/-- the same names and sides -/
theorem GoodH.row {ps ps' : List Pr} {hs hs' : List Hl} (GH : GoodH ps hs) (e : hs'.map (fun h => (h.name, h.side)) = hs.map fun h => (h.name, h.side)) (ok : ∀ h ∈ hs', HOk ps' h) : GoodH ps' hs' := by
  have e1 : hs'.map (·.name) = hs.map (·.name) := by
    have := congrArg (List.map Prod.fst) e
    rw [List.map_map, List.map_map] at this
    exact this
  have e2 : hs'.map (·.side) = hs.map (·.side) := by
    have := congrArg (List.map Prod.snd) e
    rw [List.map_map, List.map_map] at this
    exact this
  refine ⟨ok, by rw [e1]; exact GH.nd, fun h hh => ?_, fun s => ?_, ?_⟩
  · have : h.name ∈ hs'.map (·.name) := List.mem_map.mpr ⟨h, hh, rfl⟩
    rw [e1] at this
    obtain ⟨k, hk, q⟩ := List.mem_map.mp this
    rw [← q]
    exact GH.nm k hk
  · have q := GH.few s
    have f : ∀ l : List Hl, (l.filter fun h => decide (h.side = s)).length = ((l.map (·.side)).filter fun z => decide (z = s)).length := fun l => by
      rw [List.filter_map, List.length_map] <;> rfl
    rw [f] at q ⊢
    rw [e2]
    exact q
  · have := congrArg List.length e1
    rw [List.length_map, List.length_map] at this
    rw [this]
    exact GH.len
theorem GoodH.words {ps ps' : List Pr} {hs : List Hl} (GH : GoodH ps hs) (h : ∀ s w, w ∈ ps.map (·.word s) → w ∈ ps'.map (·.word s)) : GoodH ps' hs :=
  GH.row rfl fun x hx => ⟨(GH.ok x hx).sd, (GH.ok x hx).tl, (GH.ok x hx).tk, (GH.ok x hx).hl, (GH.ok x hx).hn, fun w hw => h _ _ ((GH.ok x hx).hw w hw)⟩
theorem Good.perm {ps ps' : List Pr} (G : Good ps) (p : ps'.Perm ps) : Good ps' :=
  ⟨by rw [p.length_eq]; exact G.len, (p.map _).nodup_iff.mpr G.nn, (p.map _).nodup_iff.mpr G.nf, fun x hx => G.kn x (p.mem_iff.mp hx), fun x hx => G.kf x (p.mem_iff.mp hx)⟩
theorem swap_perm {α : Type} {l : List α} {i : Nat} {x y : α} (h1 : l[i]? = some x) (h2 : l[i + 1]? = some y) : (l.take i ++ [y, x] ++ l.drop (i + 2)).Perm l ∧ l = l.take i ++ [x, y] ++ l.drop (i + 2) := by
  have l1 := (List.getElem?_eq_some_iff.mp h1).1
  have l2 := (List.getElem?_eq_some_iff.mp h2).1
  have e : l = l.take i ++ [x, y] ++ l.drop (i + 2) := by
    have := List.take_append_drop i l
    rw [List.drop_eq_getElem_cons l1, List.drop_eq_getElem_cons l2, (List.getElem?_eq_some_iff.mp h1).2, (List.getElem?_eq_some_iff.mp h2).2] at this
    rw [List.append_assoc]
    exact this.symm
  refine ⟨?_, e⟩
  have p : (l.take i ++ [y, x] ++ l.drop (i + 2)).Perm (l.take i ++ [x, y] ++ l.drop (i + 2)) := ((List.Perm.swap x y []).append_left _).append_right _
  rw [← e] at p
  exact p
theorem swap_ne {α : Type} {l : List α} {i : Nat} {x y : α} (h1 : l[i]? = some x) (h2 : l[i + 1]? = some y) (n : x ≠ y) : l.take i ++ [y, x] ++ l.drop (i + 2) ≠ l := fun z => by
  have e := (swap_perm h1 h2).2
  rw [e] at z
  have l1 := (List.getElem?_eq_some_iff.mp h1).1
  rw [← e] at z
  have z2 : l.take i ++ [y, x] ++ l.drop (i + 2) = l.take i ++ [x, y] ++ l.drop (i + 2) := z.trans e
  rw [List.append_assoc, List.append_assoc] at z2
  exact n (List.cons.inj (List.append_cancel_left z2)).1.symm
theorem put_at {α : Type} {l : List α} {i : Nat} {x : α} (h1 : l[i]? = some x) : l = l.take i ++ [x] ++ l.drop (i + 1) := by
  have l1 := (List.getElem?_eq_some_iff.mp h1).1
  have := List.take_append_drop i l
  rw [List.drop_eq_getElem_cons l1, (List.getElem?_eq_some_iff.mp h1).2] at this
  rw [List.append_assoc]
  exact this.symm
theorem put_ne {α : Type} {l : List α} {i : Nat} {x y : α} (h1 : l[i]? = some x) (n : x ≠ y) : l.take i ++ [y] ++ l.drop (i + 1) ≠ l := fun z => by
  have z2 : l.take i ++ [y] ++ l.drop (i + 1) = l.take i ++ [x] ++ l.drop (i + 1) := z.trans (put_at h1)
  rw [List.append_assoc, List.append_assoc] at z2
  exact n (List.cons.inj (List.append_cancel_left z2)).1.symm
theorem nodup_two {α β : Type} {f : α → β} {l : List α} {i : Nat} {x y : α} (nd : (l.map f).Nodup) (h1 : l[i]? = some x) (h2 : l[i + 1]? = some y) : x ≠ y := fun z => by
  have e := (swap_perm h1 h2).2
  rw [e, z, List.map_append, List.map_append, List.nodup_append, List.nodup_append] at nd
  have := nd.1.2.1
  simp at this
theorem oth_swap {ps : List Pr} {hs : List Hl} (G : Good ps) (GH : GoodH ps hs) {i : Nat} {x y : Hl} (h1 : hs[i]? = some x) (h2 : hs[i + 1]? = some y) : Oth ps hs ps (hs.take i ++ [y, x] ++ hs.drop (i + 2)) :=
  ⟨G, GH.perm (swap_perm h1 h2).1, .inr (swap_ne h1 h2 (nodup_two GH.nd h1 h2))⟩
theorem oth_row {ps : List Pr} {hs : List Hl} (G : Good ps) (GH : GoodH ps hs) {i : Nat} {x y : Hl} (h1 : hs[i]? = some x) (e1 : y.name = x.name) (e2 : y.side = x.side) (O : HOk ps y) (n : y ≠ x) : Oth ps hs ps (hs.take i ++ [y] ++ hs.drop (i + 1)) := by
  refine ⟨G, GH.row ?_ fun h hh => ?_, .inr (put_ne h1 n.symm)⟩
  · have e : hs.map (fun h => (h.name, h.side)) = (hs.take i ++ [x] ++ hs.drop (i + 1)).map fun h => (h.name, h.side) := congrArg _ (put_at h1)
    rw [e, List.map_append, List.map_append, List.map_append, List.map_append, List.map_cons, List.map_cons, e1, e2]
  · rcases List.mem_append.mp hh with z | z
    · rcases List.mem_append.mp z with y | y
      · exact GH.ok h (List.mem_of_mem_take y)
      · rw [List.mem_singleton.mp y]
        exact O
    · exact GH.ok h (List.mem_of_mem_drop z)
theorem oth_last {ps : List Pr} {hs : List Hl} (G : Good ps) (GH : GoodH ps hs) (h : hs ≠ []) : Oth ps hs ps hs.dropLast := by
  refine ⟨G, GH.sub (List.dropLast_sublist hs), .inr fun z => ?_⟩
  have := congrArg List.length z
  rw [List.length_dropLast] at this
  have : 0 < hs.length := List.length_pos_iff.mpr h
  omega
theorem oth_one {ps : List Pr} (G : Good ps) : Oth ps [] ps [⟨"q", 0, [], true, []⟩] := by
  refine ⟨G, ⟨fun h hh => ?_, by decide +kernel, fun h hh => ?_, fun s => Nat.le_trans (List.length_filter_le _ _) (by decide), by decide⟩, .inr (by intro z; cases z)⟩
  · rw [List.mem_singleton.mp hh]
    exact ⟨.inl rfl, by decide, (fun w hw => nomatch hw), by decide, List.nodup_nil, (fun w hw => nomatch hw)⟩
  · rw [List.mem_singleton.mp hh]
    exact isName_dec (by decide +kernel)
theorem oth_pswap {ps : List Pr} {hs : List Hl} (G : Good ps) (GH : GoodH ps hs) {i : Nat} {x y : Pr} (h1 : ps[i]? = some x) (h2 : ps[i + 1]? = some y) : Oth ps hs (ps.take i ++ [y, x] ++ ps.drop (i + 2)) hs :=
  ⟨G.perm (swap_perm h1 h2).1, GH.words fun s w hw => ((swap_perm h1 h2).1.map _).mem_iff.mpr hw, .inl (swap_ne h1 h2 (nodup_two G.nn h1 h2))⟩
theorem Good.put {ps : List Pr} (G : Good ps) {i : Nat} {x y : Pr} (h1 : ps[i]? = some x) (n1 : y.near = x.near ∨ y.near ∉ ps.map (·.near)) (n2 : y.far = x.far ∨ y.far ∉ ps.map (·.far)) (k1 : IsName y.near) (k2 : IsName y.far) : Good (ps.take i ++ [y] ++ ps.drop (i + 1)) := by
  have e := put_at h1
  have sp : ∀ {f : Pr → Str}, (ps.map f).Nodup → (f y = f x ∨ f y ∉ ps.map f) → ((ps.take i ++ [y] ++ ps.drop (i + 1)).map f).Nodup := fun {f} nd h => by
    rcases h with q | q
    · have : (ps.take i ++ [y] ++ ps.drop (i + 1)).map f = ps.map f := by
        have e2 := congrArg (List.map f) e
        rw [List.map_append, List.map_append, List.map_cons] at e2
        rw [e2, List.map_append, List.map_append, List.map_cons, q]
      rw [this]
      exact nd
    · have e2 : ps.map f = (ps.take i).map f ++ [f x] ++ (ps.drop (i + 1)).map f := by
        have e2 := congrArg (List.map f) e
        rw [List.map_append, List.map_append] at e2
        exact e2
      have p1 : ((ps.take i).map f ++ [f y] ++ (ps.drop (i + 1)).map f).Perm (f y :: ((ps.take i).map f ++ (ps.drop (i + 1)).map f)) := by
        rw [List.append_assoc]
        exact List.perm_middle
      have p2 : ((ps.take i).map f ++ [f x] ++ (ps.drop (i + 1)).map f).Perm (f x :: ((ps.take i).map f ++ (ps.drop (i + 1)).map f)) := by
        rw [List.append_assoc]
        exact List.perm_middle
      have nd2 := nd
      rw [e2] at nd2
      have nd3 := (List.nodup_cons.mp (p2.nodup_iff.mp nd2))
      rw [List.map_append, List.map_append]
      refine p1.nodup_iff.mpr (List.nodup_cons.mpr ⟨fun z => q ?_, nd3.2⟩)
      rw [e2]
      exact p2.mem_iff.mpr (List.mem_cons_of_mem _ z)
  have hm : ∀ p ∈ ps.take i ++ [y] ++ ps.drop (i + 1), p = y ∨ p ∈ ps := fun p hp => by
    rcases List.mem_append.mp hp with z | z
    · rcases List.mem_append.mp z with w | w
      · exact .inr (List.mem_of_mem_take w)
      · exact .inl (List.mem_singleton.mp w)
    · exact .inr (List.mem_of_mem_drop z)
  refine ⟨?_, sp G.nn n1, sp G.nf n2, fun p hp => ?_, fun p hp => ?_⟩
  · have := congrArg List.length e
    rw [List.length_append, List.length_append] at this
    rw [List.length_append, List.length_append]
    have h1 := G.len
    have e1 : [x].length = [y].length := rfl
    omega
  · rcases hm p hp with rfl | z
    · exact k1
    · exact G.kn p z
  · rcases hm p hp with rfl | z
    · exact k2
    · exact G.kf p z
theorem oth_laden {ps : List Pr} {hs : List Hl} (G : Good ps) (GH : GoodH ps hs) {i : Nat} {x : Pr} (h1 : ps[i]? = some x) : Oth ps hs (ps.take i ++ [⟨x.near, x.far, !x.laden⟩] ++ ps.drop (i + 1)) hs := by
  have hx := List.mem_of_getElem? h1
  refine ⟨G.put h1 (.inl rfl) (.inl rfl) (G.kn x hx) (G.kf x hx), GH.words fun s w hw => ?_, .inl (put_ne h1 fun z => ?_)⟩
  · have : (ps.take i ++ [(⟨x.near, x.far, !x.laden⟩ : Pr)] ++ ps.drop (i + 1)).map (·.word s) = ps.map (·.word s) := by
      have e2 := congrArg (List.map (·.word s)) (put_at h1)
      rw [List.map_append, List.map_append] at e2
      rw [e2, List.map_append, List.map_append] <;> rfl
    rw [this]
    exact hw
  · have := congrArg Pr.laden z
    cases h : x.laden <;> rw [h] at this <;> cases this
/-- a word of a side is another one; the helpers of that side throw the other one -/
def chg (s : Int) (old new : Str) (h : Hl) : Hl := if h.side = s then { h with throws := h.throws.map fun w => if w = old then new else w } else h
def Pr.put (p : Pr) (s : Int) (w : Str) : Pr := if s = 0 then { p with near := w } else { p with far := w }
theorem oth_word {ps : List Pr} {hs : List Hl} (G : Good ps) (GH : GoodH ps hs) {i : Nat} {x : Pr} (h1 : ps[i]? = some x) {s : Int} (hs' : s = 0 ∨ s = 1) {f : Str} (hf : f ∉ ps.map (·.word s)) (kf : IsName f) :
    Oth ps hs (ps.take i ++ [x.put s f] ++ ps.drop (i + 1)) (hs.map (chg s (x.word s) f)) := by
  have hx := List.mem_of_getElem? h1
  have ew : (x.put s f).word s = f := by
    rcases hs' with rfl | rfl <;> rfl
  have eo : ∀ t, (t = 0 ∨ t = 1) → t ≠ s → (x.put s f).word t = x.word t := fun t ht n => by
    rcases hs' with rfl | rfl <;> rcases ht with rfl | rfl <;> first | rfl | exact absurd rfl n
  have gp : Good (ps.take i ++ [x.put s f] ++ ps.drop (i + 1)) := by
    rcases hs' with rfl | rfl
    · exact G.put h1 (.inr hf) (.inl rfl) kf (G.kf x hx)
    · exact G.put h1 (.inl rfl) (.inr hf) (G.kn x hx) kf
  have e2 : ∀ t, ps.map (·.word t) = (ps.take i).map (·.word t) ++ [x.word t] ++ (ps.drop (i + 1)).map (·.word t) := fun t => by
    have e2 := congrArg (List.map (·.word t)) (put_at h1)
    rw [List.map_append, List.map_append] at e2
    exact e2
  have nx : x.word s ∈ ps.map (·.word s) := List.mem_map.mpr ⟨x, hx, rfl⟩
  refine ⟨gp, GH.row ?_ fun h hh => ?_, .inl (put_ne h1 fun z => ?_)⟩
  · rw [List.map_map]
    apply List.map_congr_left
    intro h hh
    show ((chg s (x.word s) f h).name, (chg s (x.word s) f h).side) = _
    unfold chg
    split <;> rfl
  · obtain ⟨k, hk, rfl⟩ := List.mem_map.mp hh
    have O := GH.ok k hk
    unfold chg
    split
    · rename_i es
      refine ⟨O.sd, O.tl, O.tk, by rw [List.length_map]; exact O.hl, ?_, fun w hw => ?_⟩
      · refine List.Pairwise.map (R := fun a b => a ≠ b ∧ a ∈ k.throws ∧ b ∈ k.throws) _ (fun a b hab => ?_) ?_
        · have fa : ∀ a ∈ k.throws, a ≠ f := fun a ha z => hf (by rw [← z, ← es]; exact O.hw a ha)
          by_cases ea : a = x.word s
          · by_cases eb : b = x.word s
            · exact absurd (ea.trans eb.symm) hab.1
            · rw [if_pos ea, if_neg eb]
              exact (fa b hab.2.2).symm
          · by_cases eb : b = x.word s
            · rw [if_neg ea, if_pos eb]
              exact fa a hab.2.1
            · rw [if_neg ea, if_neg eb]
              exact hab.1
        · have nd := O.hn
          rw [List.nodup_iff_pairwise_ne] at nd
          exact List.Pairwise.imp_of_mem (fun ha hb hab => ⟨hab, ha, hb⟩) nd
      · obtain ⟨v, hv, rfl⟩ := List.mem_map.mp hw
        show (if v = x.word s then f else v) ∈ (ps.take i ++ [x.put s f] ++ ps.drop (i + 1)).map (·.word k.side)
        rw [es, List.map_append, List.map_append]
        by_cases ev : v = x.word s
        · rw [if_pos ev]
          refine List.mem_append.mpr (.inl (List.mem_append.mpr (.inr ?_)))
          rw [List.map_cons, ew]
          exact List.mem_cons_self
        · rw [if_neg ev]
          have := O.hw v hv
          rw [es, e2] at this
          rcases List.mem_append.mp this with z | z
          · rcases List.mem_append.mp z with y | y
            · exact List.mem_append.mpr (.inl (List.mem_append.mpr (.inl y)))
            · exact absurd (List.mem_singleton.mp y) ev
          · exact List.mem_append.mpr (.inr z)
    · rename_i es
      refine ⟨O.sd, O.tl, O.tk, O.hl, O.hn, fun w hw => ?_⟩
      have := O.hw w hw
      rw [e2] at this
      rw [List.map_append, List.map_append, List.map_cons, eo _ O.sd es]
      exact this
  · have := congrArg (·.word s) z
    have t2 : x.word s = (x.put s f).word s := this
    rw [ew] at t2
    exact hf (by rw [← t2]; exact nx)
end
end Pf
set_option Elab.async false
set_option linter.all false
set_option maxRecDepth 100000
set_option maxHeartbeats 4000000
namespace Pf
open PySem L2
local macro_rules | `(tactic| walk_at "nz") => `(tactic| (show (_ : Int) ≠ 0; omega))
local macro_rules | `(tactic| walk_at "ne") => `(tactic| first | assumption | (apply Ne.symm; assumption))
local macro_rules | `(tactic| walk_at "hp") => `(tactic| first | assumption | exact upd_same | (refine upd_get ?_ ?_; walk_at "ne"; walk_at "hp"))
local macro_rules | `(tactic| walk_at "sd") => `(tactic| first
  | (with_reducible show (_ : Int) < _; omega)
  | (with_reducible show (_ : Int) ≤ _; omega)
  | (with_reducible show (_ : Nat) < _; omega)
  | (with_reducible show (_ : Nat) ≤ _; omega)
  | rfl
  | assumption
  | exact kV_int _
  | exact kV_str _
  | (show (_ : Int) ≠ 0; omega)
  | exact SqL.of (by walk_at "hp")
  | exact ⟨_, SqL.of (by walk_at "hp")⟩
  | exact ⟨_, SqT.of (by walk_at "hp")⟩
  | exact ⟨_, (by assumption)⟩
  | exact SqT.of (by walk_at "hp")
  | exact Rd.of (by walk_at "hp")
  | exact Or.inl (SqL.of (by walk_at "hp"))
  | exact Or.inr (SqT.of (by walk_at "hp"))
  | exact Or.inr (by assumption)
  | (walk_at "hp")
  | (exact Or.inl ⟨rfl, _, SqL.of (by walk_at "hp")⟩)
  | (exact Or.inl ⟨by omega, by omega⟩)
  | (exact Or.inr ⟨by omega, by omega⟩)
  | (refine ⟨?_, ?_, ?_⟩ <;> omega)
  | omega
  | (exact small_le (by first | omega | (simp only [List.length_cons, List.length_nil]; omega)))
  | (exact small_lt (by first | omega | (simp only [List.length_cons, List.length_nil]; omega)))
  | exact Nat.le_of_ble_eq_true rfl
  | exact ⟨_, rfl⟩
  | decide)
local macro_rules | `(tactic| walk_at "st") => `(tactic| first
  | with_reducible refine sq_seq ?_
  | apply Exists.intro
  | (refine And.intro ?_ ?_; (walk_at "sd")))
local macro_rules | `(tactic| walk_at "go") => `(tactic| repeat (walk_at "st"))
section
variable {P : Program} {w : World} {K : PySem.W.Frag} {mg : Str → Option Value} {base : Heap} {a : Ad}
/-! ### texts cut and joined -/
structure Sep (y : Str) (c : Nat) : Prop where
  e : TL.tl y = [c]
  k : y.cps.all (· < 256) = true
theorem sepB : Sep " " 32 := ⟨by decide +kernel, by decide +kernel⟩
theorem sepN : Sep "\n" 10 := ⟨by decide +kernel, by decide +kernel⟩
theorem pre1 (c d : Nat) (r : List Nat) : TL.pre [c] (d :: r) = decide (d = c) := by
  show ([d] == [c]) = decide (d = c)
  by_cases h : d = c
  · rw [h]; simp
  · rw [decide_eq_false h]
    simp [h]
theorem spl_some (S : List Nat) : ∀ (a : List Nat) (k : Nat) (acc : List Nat), TL.spl S k acc a ≠ []
  | [], k, acc => by rw [TL.spl_nil]; simp
  | d :: r, 0, acc => by
    show (if TL.pre S (d :: r) = true then acc :: TL.spl S (S.length - 1) [] r else TL.spl S 0 (acc ++ [d]) r) ≠ []
    split
    · simp
    · exact spl_some S r 0 _
  | d :: r, k + 1, acc => spl_some S r k acc
theorem joinL_cons {S p : List Nat} : ∀ {X : List (List Nat)}, X ≠ [] → TL.joinL S (p :: X) = p ++ (S ++ TL.joinL S X)
  | [], h => absurd rfl h
  | _ :: _, _ => rfl
theorem join_spl (c : Nat) : ∀ (a acc : List Nat), TL.joinL [c] (TL.spl [c] 0 acc a) = acc ++ a
  | [], acc => by rw [TL.spl_nil, List.append_nil] <;> rfl
  | d :: r, acc => by
    by_cases h : d = c
    · rw [TL.spl_hit (by rw [pre1]; exact decide_eq_true h), joinL_cons (spl_some _ _ _ _)]
      show acc ++ ([c] ++ TL.joinL [c] (TL.spl [c] 0 [] r)) = _
      rw [join_spl c r [], h] <;> rfl
    · rw [TL.spl_miss (by rw [pre1]; exact decide_eq_false h), join_spl c r, List.append_assoc] <;> rfl
theorem spl_free1 (c : Nat) : ∀ (a acc : List Nat), c ∉ acc → ∀ p ∈ TL.spl [c] 0 acc a, c ∉ p
  | [], acc, h, p, hp => by
    rw [TL.spl_nil] at hp
    rw [List.mem_singleton.mp hp]
    exact h
  | d :: r, acc, h, p, hp => by
    by_cases e : d = c
    · rw [TL.spl_hit (by rw [pre1]; exact decide_eq_true e)] at hp
      rcases List.mem_cons.mp hp with rfl | z
      · exact h
      · exact spl_free1 c r [] (by simp) p z
    · rw [TL.spl_miss (by rw [pre1]; exact decide_eq_false e)] at hp
      refine spl_free1 c r (acc ++ [d]) (fun z => ?_) p hp
      rcases List.mem_append.mp z with y | y
      · exact h y
      · exact e (List.mem_singleton.mp y).symm
theorem joinL_sum {c : Nat} : ∀ {ps : List (List Nat)}, ps ≠ [] → (TL.joinL [c] ps).length + 1 = (ps.map (·.length)).sum + ps.length
  | [], h => absurd rfl h
  | [p], _ => by
    show p.length + 1 = (p.length + 0) + 1
    omega
  | p :: q :: r, _ => by
    have ih := joinL_sum (c := c) (ps := q :: r) (by simp)
    rw [joinL_cons (by simp), List.length_append, List.length_append, List.map_cons, List.sum_cons, List.length_cons (a := p)]
    have e1 : [c].length = 1 := rfl
    omega
theorem joinL_part {s p : List Nat} : ∀ {ps : List (List Nat)}, p ∈ ps → p.length ≤ (TL.joinL s ps).length ∧ ∀ c ∈ p, c ∈ TL.joinL s ps
  | [], h => by cases h
  | [q], h => by
    rw [List.mem_singleton.mp h]
    exact ⟨Nat.le_refl _, fun _ h => h⟩
  | q :: t :: r, h => by
    rw [joinL_cons (by simp)]
    rcases List.mem_cons.mp h with rfl | z
    · exact ⟨by rw [List.length_append]; omega, fun c hc => List.mem_append.mpr (.inl hc)⟩
    · have ih := joinL_part (s := s) z
      exact ⟨by rw [List.length_append, List.length_append]; omega, fun c hc => List.mem_append.mpr (.inr (List.mem_append.mpr (.inr (ih.2 c hc))))⟩
theorem Sep.cut {y : Str} {c : Nat} (h : Sep y c) (x : Str) : (Txt.split x y).map TL.tl = TL.spl [c] 0 [] (TL.tl x) := by
  have := TL.split_spl x y (by rw [h.e]; simp) (TL.kind_ok h.k)
  rw [h.e] at this
  exact this
theorem Sep.jl {y : Str} {c : Nat} (h : Sep y c) (ws : List Str) : TL.tl (Txt.join y ws) = TL.joinL [c] (ws.map TL.tl) := by
  rw [TL.join_eq, TL.tl_join, h.e]
theorem Sep.join {y : Str} {c : Nat} (h : Sep y c) (x : Str) : Txt.join y (Txt.split x y) = x := by
  refine tl_inj ?_
  rw [h.jl, h.cut, join_spl, List.nil_append]
theorem Sep.some {y : Str} {c : Nat} (h : Sep y c) (x : Str) : Txt.split x y ≠ [] := fun z => by
  have := h.cut x
  rw [z] at this
  exact spl_some _ _ _ _ this.symm
theorem Sep.free {y : Str} {c : Nat} (h : Sep y c) {x w : Str} (hw : w ∈ Txt.split x y) : c ∉ TL.tl w := by
  have hm : TL.tl w ∈ (Txt.split x y).map TL.tl := List.mem_map.mpr ⟨w, hw, rfl⟩
  rw [h.cut] at hm
  exact spl_free1 c _ [] (by simp) _ hm
theorem Sep.of {y : Str} {c : Nat} (h : Sep y c) {ws : List Str} (h0 : ws ≠ []) (h1 : ∀ w ∈ ws, c ∉ TL.tl w) : Txt.split (Txt.join y ws) y = ws := TL.split_join h.e h.k h0 h1
theorem len_tl2 (ws : List Str) : (ws.map TL.tl).map (·.length) = ws.map (·.length) := by
  rw [List.map_map]
  apply List.map_congr_left
  intro w _
  exact (TL.len_tl w).symm
theorem Sep.jlen {y : Str} {c : Nat} (h : Sep y c) {ws : List Str} (h0 : ws ≠ []) : (Txt.join y ws).length + 1 = (ws.map (·.length)).sum + ws.length := by
  have := joinL_sum (c := c) (ps := ws.map TL.tl) (by simpa using h0)
  rw [← h.jl, len_tl2, List.length_map, ← TL.len_tl] at this
  exact this
theorem Sep.len {y : Str} {c : Nat} (h : Sep y c) (x : Str) : ((Txt.split x y).map (·.length)).sum + (Txt.split x y).length = x.length + 1 := by
  have := h.jlen (h.some x)
  rw [h.join] at this
  exact this.symm
theorem Sep.part {y : Str} {c : Nat} (h : Sep y c) {ws : List Str} {w : Str} (hw : w ∈ ws) : w.length ≤ (Txt.join y ws).length ∧ (PyData.strOk (Txt.join y ws) = true → PyData.strOk w = true) := by
  have := joinL_part (s := [c]) (List.mem_map.mpr ⟨w, hw, rfl⟩ : TL.tl w ∈ ws.map TL.tl)
  rw [← h.jl] at this
  refine ⟨by rw [TL.len_tl, TL.len_tl]; exact this.1, fun ok => ?_⟩
  unfold PyData.strOk at ok ⊢
  rw [← Array.all_toList, List.all_eq_true] at ok ⊢
  exact fun d hd => ok d (this.2 d hd)
theorem Sep.piece {y : Str} {c : Nat} (h : Sep y c) {x w : Str} (hw : w ∈ Txt.split x y) : w.length ≤ x.length ∧ (PyData.strOk x = true → PyData.strOk w = true) := by
  have := h.part hw
  rw [h.join] at this
  exact this
theorem joinL_mem0 {s : List Nat} {c : Nat} : ∀ {ps : List (List Nat)}, c ∈ TL.joinL s ps → c ∈ s ∨ ∃ p ∈ ps, c ∈ p
  | [], h => by cases h
  | [p], h => .inr ⟨p, List.mem_cons_self, h⟩
  | p :: q :: r, h => by
    have h : c ∈ p ++ (s ++ TL.joinL s (q :: r)) := h
    rcases List.mem_append.mp h with z | z
    · exact .inr ⟨p, List.mem_cons_self, z⟩
    · rcases List.mem_append.mp z with y | y
      · exact .inl y
      · rcases joinL_mem0 y with v | ⟨u, hu, hc⟩
        · exact .inl v
        · exact .inr ⟨u, List.mem_cons_of_mem _ hu, hc⟩
/-! ### lines read -/
def pwords (p : Pr) : List Str := (["word", p.near, p.far] : List Str) ++ (if p.laden = true then (["laden"] : List Str) else [])
def pline (p : Pr) : Str := Txt.join " " (pwords p)
def textOf (ps : List Pr) (hs : List Hl) : Str := Txt.join "\n" (ps.map pline ++ hs.map hline)
def rdP : List Str → Option Pr
  | [_, a, b] => some ⟨a, b, false⟩
  | [_, a, b, c] => if c = "laden" then some ⟨a, b, true⟩ else none
  | _ => none
def spanH : List Str → List Str × List Str
  | [] => ([], [])
  | w :: r => if w ∈ hows then (w :: (spanH r).1, (spanH r).2) else ([], w :: r)
def thrR : List Str → Option (List Str)
  | [] => some []
  | x :: q => if x = "throws" ∧ q ≠ [] then some q else none
def givR (r : List Str) : Bool := decide (r.head? = some ("gives" : Str))
def tailR (r : List Str) : Option (Bool × List Str) := (thrR (if givR r = true then r.tail else r)).map fun zs => (givR r, zs)
def rdT (n : Str) (sd : Int) (rest : List Str) : Option Hl := (tailR (spanH rest).2).map fun t => ⟨n, sd, (spanH rest).1, t.1, t.2⟩
def rdH : List Str → Option Hl
  | _ :: n :: s :: rest => if s = "0" then rdT n 0 rest else if s = "1" then rdT n 1 rest else none
  | _ => none
theorem spanH_of : ∀ {ts r : List Str}, (∀ w ∈ ts, w ∈ hows) → (∀ w, r.head? = some w → w ∉ hows) → spanH (ts ++ r) = (ts, r)
  | [], [], _, _ => rfl
  | [], x :: q, _, h => by
    show (if x ∈ hows then _ else ([], x :: q)) = _
    rw [if_neg (h x rfl)]
  | w :: ts, r, h1, h2 => by
    have ih := spanH_of (ts := ts) (r := r) (fun v hv => h1 v (List.mem_cons_of_mem _ hv)) h2
    show (if w ∈ hows then (w :: (spanH (ts ++ r)).1, (spanH (ts ++ r)).2) else _) = _
    rw [if_pos (h1 w List.mem_cons_self), ih]
theorem spanH_eq : ∀ l : List Str, (spanH l).1 ++ (spanH l).2 = l ∧ ∀ w ∈ (spanH l).1, w ∈ hows
  | [] => ⟨rfl, fun _ h => nomatch h⟩
  | w :: r => by
    have ih := spanH_eq r
    by_cases h : w ∈ hows
    · have e : spanH (w :: r) = (w :: (spanH r).1, (spanH r).2) := if_pos h
      rw [e]
      refine ⟨by rw [List.cons_append, ih.1], fun v hv => ?_⟩
      rcases List.mem_cons.mp hv with rfl | z
      · exact h
      · exact ih.2 v z
    · have e : spanH (w :: r) = ([], w :: r) := if_neg h
      rw [e]
      exact ⟨rfl, fun _ h => nomatch h⟩
theorem thrR_of {zs : List Str} : thrR (if 0 < zs.length then (["throws"] : List Str) ++ zs else []) = some zs := by
  cases zs with
  | nil => rfl
  | cons z r =>
    show (if ("throws" : Str) = "throws" ∧ z :: r ≠ [] then some (z :: r) else none) = _
    rw [if_pos ⟨rfl, by simp⟩]
theorem thrR_back {r zs : List Str} (h : thrR r = some zs) : (if 0 < zs.length then (["throws"] : List Str) ++ zs else []) = r := by
  cases r with
  | nil =>
    have : ([] : List Str) = zs := Option.some.inj h
    rw [← this] <;> rfl
  | cons x q =>
    have h : (if x = "throws" ∧ q ≠ [] then some q else none) = some zs := h
    by_cases c : x = "throws" ∧ q ≠ []
    · rw [if_pos c] at h
      have : q = zs := Option.some.inj h
      subst this
      rw [if_pos (List.length_pos_iff.mpr c.2), c.1] <;> rfl
    · rw [if_neg c] at h
      cases h
theorem tailR_of (g : Bool) (zs : List Str) : tailR (htail g zs) = some (g, zs) := by
  cases g with
  | true =>
    have e1 : givR (htail true zs) = true := decide_eq_true rfl
    unfold tailR
    rw [e1, if_pos rfl]
    have e2 : (htail true zs).tail = if 0 < zs.length then (["throws"] : List Str) ++ zs else [] := rfl
    rw [e2, thrR_of] <;> rfl
  | false =>
    have e0 : htail false zs = if 0 < zs.length then (["throws"] : List Str) ++ zs else [] := rfl
    have e1 : givR (htail false zs) = false := by
      refine decide_eq_false fun h => ?_
      rw [e0] at h
      cases zs with
      | nil => cases h
      | cons z r => exact mark_ne (Option.some.inj h).symm
    unfold tailR
    rw [e1, if_neg (by decide), e0, thrR_of] <;> rfl
theorem tailR_back {r zs : List Str} {g : Bool} (h : tailR r = some (g, zs)) : htail g zs = r := by
  unfold tailR at h
  obtain ⟨z, h1, h2⟩ := Option.map_eq_some_iff.mp h
  obtain ⟨rfl, rfl⟩ := Prod.mk.inj h2
  have h3 := thrR_back h1
  unfold htail
  cases hg : givR r with
  | true =>
    rw [hg, if_pos rfl] at h3
    rw [if_pos rfl, h3]
    have := of_decide_eq_true hg
    cases r with
    | nil => cases this
    | cons x q =>
      have : some x = some ("gives" : Str) := this
      rw [Option.some.inj this] <;> rfl
  | false =>
    rw [hg] at h3
    have h3 : (if 0 < z.length then (["throws"] : List Str) ++ z else []) = r := h3
    rw [h3] <;> rfl
theorem side0 : Str.ofString (toString (0 : Int)) = "0" := by decide +kernel
theorem side1 : Str.ofString (toString (1 : Int)) = "1" := by decide +kernel
theorem zero_one : ("1" : Str) ≠ "0" := by decide +kernel
theorem rdT_of {h : Hl} (W : ∀ w ∈ h.takes, w ∈ hows) (sd : Int) (e : sd = h.side) : rdT h.name sd (h.takes ++ htail h.gives h.throws) = some h := by
  unfold rdT
  rw [spanH_of W (htail_head _ _), tailR_of, e] <;> rfl
theorem rdH_of {h : Hl} (W : WfH h) : rdH (hwords h) = some h := by
  have e : hwords h = Str.ofString "helper" :: h.name :: Str.ofString (toString h.side) :: (h.takes ++ htail h.gives h.throws) := by
    unfold hwords
    rw [List.append_assoc] <;> rfl
  rw [e]
  show (if Str.ofString (toString h.side) = "0" then rdT h.name 0 _ else if Str.ofString (toString h.side) = "1" then rdT h.name 1 _ else none) = _
  rcases W.sd with z | z
  · rw [z, side0, if_pos rfl, rdT_of W.tk 0 z.symm]
  · rw [z, side1, if_neg zero_one, if_pos rfl, rdT_of W.tk 1 z.symm]
theorem rdT_back {n : Str} {sd : Int} {rest : List Str} {h : Hl} (e : rdT n sd rest = some h) : h.name = n ∧ h.side = sd ∧ h.takes ++ htail h.gives h.throws = rest := by
  unfold rdT at e
  obtain ⟨t, h1, h2⟩ := Option.map_eq_some_iff.mp e
  obtain ⟨g, zs⟩ := t
  have h3 := tailR_back h1
  subst h2
  refine ⟨rfl, rfl, ?_⟩
  show (spanH rest).1 ++ htail g zs = rest
  rw [h3]
  exact (spanH_eq rest).1
theorem rdH_back {ws : List Str} {h : Hl} (e : rdH ws = some h) (e0 : ws.head? = some ("helper" : Str)) : hwords h = ws := by
  match ws, e, e0 with
  | [], e, _ => cases e
  | [_], e, _ => cases e
  | [_, _], e, _ => cases e
  | x :: n :: s :: rest, e, e0 =>
    have ex : x = "helper" := Option.some.inj e0
    have e : (if s = "0" then rdT n 0 rest else if s = "1" then rdT n 1 rest else none) = some h := e
    have fin : ∀ sd : Int, s = Str.ofString (toString sd) → rdT n sd rest = some h → hwords h = x :: n :: s :: rest := fun sd es er => by
      obtain ⟨h1, h2, h3⟩ := rdT_back er
      unfold hwords
      rw [List.append_assoc, h3, h1, h2, ex, es] <;> rfl
    by_cases c : s = "0"
    · rw [if_pos c] at e
      exact fin 0 (by rw [c, side0]) e
    · rw [if_neg c] at e
      by_cases c1 : s = "1"
      · rw [if_pos c1] at e
        exact fin 1 (by rw [c1, side1]) e
      · rw [if_neg c1] at e
        cases e
theorem rdP_of (p : Pr) : rdP (pwords p) = some p := by
  obtain ⟨n, f, l⟩ := p
  cases l with
  | true =>
    show (if ("laden" : Str) = "laden" then some (⟨n, f, true⟩ : Pr) else none) = _
    rw [if_pos rfl]
  | false => rfl
theorem rdP_back {ws : List Str} {p : Pr} (e : rdP ws = some p) (e0 : ws.head? = some ("word" : Str)) : pwords p = ws := by
  match ws, e, e0 with
  | [], e, _ => cases e
  | [_], e, _ => cases e
  | [_, _], e, _ => cases e
  | [x, n, f], e, e0 =>
    have ex : x = "word" := Option.some.inj e0
    have e : some (⟨n, f, false⟩ : Pr) = some p := e
    rw [← Option.some.inj e, ex] <;> rfl
  | [x, n, f, l], e, e0 =>
    have ex : x = "word" := Option.some.inj e0
    have e : (if l = "laden" then some (⟨n, f, true⟩ : Pr) else none) = some p := e
    by_cases c : l = "laden"
    · rw [if_pos c] at e
      rw [← Option.some.inj e, ex, c] <;> rfl
    · rw [if_neg c] at e
      cases e
  | _ :: _ :: _ :: _ :: _ :: _, e, _ => cases e
abbrev RS := List Pr × List Hl
def stepL (s : RS) (l : Str) : Option RS :=
  if ("" : Str) ∈ Txt.split l " " then none
  else if (Txt.split l " ").head? = some ("word" : Str) then (if s.2 = [] then (rdP (Txt.split l " ")).map fun p => (s.1 ++ [p], s.2) else none)
  else if (Txt.split l " ").head? = some ("helper" : Str) then (rdH (Txt.split l " ")).map fun h => (s.1, s.2 ++ [h]) else none
def rdFrom (o : Option RS) (ls : List Str) : Option RS := ls.foldl (fun o l => o.bind fun s => stepL s l) o
def rdPre (ls : List Str) : Option RS := rdFrom (some ([], [])) ls
theorem rdFrom_none : ∀ ls : List Str, rdFrom none ls = none
  | [] => rfl
  | _ :: r => rdFrom_none r
theorem rdFrom_app (o : Option RS) (a b : List Str) : rdFrom o (a ++ b) = rdFrom (rdFrom o a) b := List.foldl_append ..
theorem rdPre_snoc {ls : List Str} {i : Nat} {l : Str} (h : ls[i]? = some l) : rdPre (ls.take (i + 1)) = (rdPre (ls.take i)).bind fun s => stepL s l := by
  unfold rdPre
  rw [List.take_add_one, h, Option.toList_some, rdFrom_app] <;> rfl
def BadL (ls : List Str) (i : Nat) : Prop := i < ls.length ∧ (∃ s, rdPre (ls.take i) = some s) ∧ rdPre (ls.take (i + 1)) = none
theorem rd_none_up {ls : List Str} {i j : Nat} (h : rdPre (ls.take i) = none) (hij : i ≤ j) : rdPre (ls.take j) = none := by
  have e : ls.take j = ls.take i ++ (ls.take j).drop i := by
    have := List.take_append_drop i (ls.take j)
    rw [List.take_take, Nat.min_eq_left hij] at this
    exact this.symm
  unfold rdPre at h ⊢
  rw [e, rdFrom_app, h, rdFrom_none]
theorem BadL.one {ls : List Str} {i j : Nat} (a : BadL ls i) (b : BadL ls j) : i = j := by
  obtain ⟨_, ⟨s, hs⟩, hn⟩ := a
  obtain ⟨_, ⟨t, ht⟩, hm⟩ := b
  rcases Nat.lt_trichotomy i j with c | c | c
  · rw [rd_none_up hn c] at ht
    cases ht
  · exact c
  · rw [rd_none_up hm c] at hs
    cases hs
theorem BadL.no {ls : List Str} {i : Nat} {s : RS} (a : BadL ls i) (h : rdPre ls = some s) : False := by
  have := rd_none_up a.2.2 a.1
  rw [List.take_length, h] at this
  cases this
def linesOf (page : Str) : List Str := if page = "" then [] else Txt.split page "\n"
theorem back_from : ∀ {ls : List Str} {s t : RS}, rdFrom (some s) ls = some t → ∃ ps hs, t = (s.1 ++ ps, s.2 ++ hs) ∧ ls = ps.map pline ++ hs.map hline ∧ (s.2 ≠ [] → ps = []) ∧ (∀ p ∈ ps, ("" : Str) ∉ pwords p) ∧ ∀ h ∈ hs, ("" : Str) ∉ hwords h
  | [], s, t, h => ⟨[], [], by rw [List.append_nil, List.append_nil]; exact (Option.some.inj h).symm, rfl, fun _ => rfl, (fun _ z => nomatch z), fun _ z => nomatch z⟩
  | l :: r, s, t, h => by
    have h : rdFrom (stepL s l) r = some t := h
    cases hs : stepL s l with
    | none => rw [hs, rdFrom_none] at h; cases h
    | some s1 =>
      rw [hs] at h
      obtain ⟨ps, hh, e1, e2, e3, e4, e5⟩ := back_from h
      unfold stepL at hs
      by_cases c0 : ("" : Str) ∈ Txt.split l " "
      · rw [if_pos c0] at hs; cases hs
      rw [if_neg c0] at hs
      by_cases c1 : (Txt.split l " ").head? = some ("word" : Str)
      · rw [if_pos c1] at hs
        by_cases c2 : s.2 = []
        · rw [if_pos c2] at hs
          obtain ⟨p, hp, ep⟩ := Option.map_eq_some_iff.mp hs
          have hb := rdP_back hp c1
          have hl : pline p = l := by
            unfold pline
            rw [hb, sepB.join]
          subst ep
          refine ⟨p :: ps, hh, ?_, ?_, fun z => absurd c2 z, fun q hq => ?_, e5⟩
          · rw [e1, List.append_assoc] <;> rfl
          · rw [e2, List.map_cons, hl] <;> rfl
          · rcases List.mem_cons.mp hq with rfl | z
            · rw [hb]; exact c0
            · exact e4 q z
        · rw [if_neg c2] at hs; cases hs
      · rw [if_neg c1] at hs
        by_cases c2 : (Txt.split l " ").head? = some ("helper" : Str)
        · rw [if_pos c2] at hs
          obtain ⟨p, hp, ep⟩ := Option.map_eq_some_iff.mp hs
          have hb := rdH_back hp c2
          have hl : hline p = l := by
            unfold hline
            rw [hb, sepB.join]
          subst ep
          have e0 := e3 (by show s.2 ++ [p] ≠ []; simp)
          subst e0
          refine ⟨[], p :: hh, ?_, ?_, fun _ => rfl, (fun _ z => nomatch z), fun q hq => ?_⟩
          · rw [e1, List.append_assoc] <;> rfl
          · rw [e2, List.map_cons, hl] <;> rfl
          · rcases List.mem_cons.mp hq with rfl | z
            · rw [hb]; exact c0
            · exact e5 q z
        · rw [if_neg c2] at hs; cases hs
structure Back (ls : List Str) (ps : List Pr) (hs : List Hl) : Prop where
  e : ls = ps.map pline ++ hs.map hline
  p : ∀ p ∈ ps, ("" : Str) ∉ pwords p
  h : ∀ h ∈ hs, ("" : Str) ∉ hwords h
theorem rd_back {ls : List Str} {ps : List Pr} {hs : List Hl} (h : rdPre ls = some (ps, hs)) : Back ls ps hs := by
  obtain ⟨p1, h1, e1, e2, _, e4, e5⟩ := back_from h
  rw [List.nil_append, List.nil_append] at e1
  obtain ⟨rfl, rfl⟩ := Prod.mk.inj e1
  exact ⟨e2, e4, e5⟩
theorem text_back {page : Str} {ps : List Pr} {hs : List Hl} (h : rdPre (linesOf page) = some (ps, hs)) : textOf ps hs = page := by
  have b := (rd_back h).e
  unfold textOf
  rw [← b]
  unfold linesOf
  by_cases c : page = ""
  · rw [if_pos c, c]
    decide +kernel
  · rw [if_neg c, sepN.join]
theorem head_word (p : Pr) : (pwords p).head? = some ("word" : Str) := rfl
theorem head_helper (h : Hl) : (hwords h).head? = some ("helper" : Str) := by unfold hwords; rfl
theorem word_helper : ("helper" : Str) ≠ "word" := by decide +kernel
theorem empty_marks : ("" : Str) ∉ (["word", "laden", "helper", "gives", "throws", "lent", "given", Str.ofString (toString (0 : Int)), Str.ofString (toString (1 : Int))] : List Str) := by decide +kernel
theorem IsName.ne {w : Str} (h : IsName w) : ("" : Str) ≠ w := fun z => by
  have := h.lo
  rw [← z] at this
  exact absurd this (by decide +kernel)
theorem pwords_ok {p : Pr} (h1 : IsName p.near) (h2 : IsName p.far) : (∀ w ∈ pwords p, noB w) ∧ ("" : Str) ∉ pwords p := by
  have hm : ∀ w ∈ pwords p, w ∈ (["word", "laden"] : List Str) ∨ w = p.near ∨ w = p.far := fun w hw => by
    unfold pwords at hw
    rcases List.mem_append.mp hw with z | z
    · simp only [List.mem_cons, List.not_mem_nil, or_false] at z
      rcases z with rfl | z | z
      · exact .inl (by simp)
      · exact .inr (.inl z)
      · exact .inr (.inr z)
    · split at z
      · rw [List.mem_singleton.mp z]
        exact .inl (by simp)
      · cases z
  refine ⟨fun w hw => ?_, fun hw => ?_⟩
  · rcases hm w hw with z | rfl | rfl
    · exact noB_all (ws := ["word", "laden"]) (by decide +kernel) w z
    · exact h1.noB
    · exact h2.noB
  · rcases hm _ hw with z | z | z
    · exact empty_marks (by simp only [List.mem_cons, List.not_mem_nil, or_false] at z ⊢; rcases z with z | z <;> simp [z])
    · exact h1.ne z
    · exact h2.ne z
theorem hwords_ne {h : Hl} (W : WfH h) : ("" : Str) ∉ hwords h := fun hw => by
  have hk : ∀ w : Str, w ∈ (["word", "laden", "helper", "gives", "throws", "lent", "given", Str.ofString (toString (0 : Int)), Str.ofString (toString (1 : Int))] : List Str) → ("" : Str) ≠ w := fun w hw z => empty_marks (by rw [z]; exact hw)
  unfold hwords htail at hw
  rcases List.mem_append.mp hw with z | z
  · rcases List.mem_append.mp z with y | y
    · rcases List.mem_cons.mp y with y | y
      · exact hk _ (by simp) y
      · rcases List.mem_cons.mp y with y | y
        · exact W.nm.ne y
        · have y := List.mem_singleton.mp y
          rcases W.sd with e | e
          · rw [e] at y; exact hk _ (by simp) y
          · rw [e] at y; exact hk _ (by simp) y
    · have := W.tk _ y
      unfold hows at this
      rcases List.mem_cons.mp this with q | q
      · exact hk _ (by simp) q
      · exact hk _ (by simp) (List.mem_singleton.mp q)
  · rcases List.mem_append.mp z with y | y
    · split at y
      · exact hk _ (by simp) (List.mem_singleton.mp y)
      · cases y
    · split at y
      · rcases List.mem_append.mp y with q | q
        · exact hk _ (by simp) (List.mem_singleton.mp q)
        · exact (W.th _ q).ne rfl
      · cases y
theorem step_word {p : Pr} {ps : List Pr} (h1 : IsName p.near) (h2 : IsName p.far) : stepL (ps, []) (pline p) = some (ps ++ [p], []) := by
  have k := pwords_ok h1 h2
  have e : Txt.split (pline p) " " = pwords p := sepB.of (by unfold pwords; simp) k.1
  unfold stepL
  rw [e, if_neg k.2, if_pos (head_word p), if_pos rfl, rdP_of] <;> rfl
theorem step_helper {h : Hl} {s : RS} (W : WfH h) : stepL s (hline h) = some (s.1, s.2 ++ [h]) := by
  have e : Txt.split (hline h) " " = hwords h := sepB.of (by unfold hwords; simp) (hwords_noB W)
  unfold stepL
  rw [e, if_neg (hwords_ne W), head_helper, if_neg (fun z => word_helper (Option.some.inj z)), if_pos rfl, rdH_of W] <;> rfl
theorem read_words : ∀ {ps q : List Pr} {r : List Str}, (∀ p ∈ ps, IsName p.near ∧ IsName p.far) → rdFrom (some (q, [])) (ps.map pline ++ r) = rdFrom (some (q ++ ps, [])) r
  | [], q, r, _ => by rw [List.append_nil] <;> rfl
  | p :: ps, q, r, h => by
    show rdFrom (stepL (q, []) (pline p)) (ps.map pline ++ r) = _
    rw [step_word (h p List.mem_cons_self).1 (h p List.mem_cons_self).2, read_words fun x hx => h x (List.mem_cons_of_mem _ hx), List.append_assoc] <;> rfl
theorem read_helpers : ∀ {hs : List Hl} {s : RS}, (∀ h ∈ hs, WfH h) → rdFrom (some s) (hs.map hline) = some (s.1, s.2 ++ hs)
  | [], s, _ => by rw [List.append_nil] <;> rfl
  | x :: hs, s, h => by
    show rdFrom (stepL s (hline x)) (hs.map hline) = _
    rw [step_helper (h x List.mem_cons_self), read_helpers fun y hy => h y (List.mem_cons_of_mem _ hy), List.append_assoc] <;> rfl
theorem read_good {ps : List Pr} {hs : List Hl} (G : Good ps) (GH : GoodH ps hs) : rdPre (ps.map pline ++ hs.map hline) = some (ps, hs) := by
  unfold rdPre
  rw [read_words fun p hp => ⟨G.kn p hp, G.kf p hp⟩, read_helpers (GH.wf G)] <;> rfl
def noN (w : Str) : Prop := 10 ∉ TL.tl w
theorem IsName.noN {w : Str} (h : IsName w) : noN w := fun z => by
  have := h.cs _ z
  omega
theorem marks_noN : ∀ w ∈ (["word", "laden", "helper", "gives", "throws", "lent", "given", Str.ofString (toString (0 : Int)), Str.ofString (toString (1 : Int))] : List Str), noN w := by
  have h : ((["word", "laden", "helper", "gives", "throws", "lent", "given", Str.ofString (toString (0 : Int)), Str.ofString (toString (1 : Int))] : List Str).all fun w => w.cps.toList.all fun c => decide (c ≠ 10)) = true := by decide +kernel
  intro w hw z
  exact of_decide_eq_true (List.all_eq_true.mp (List.all_eq_true.mp h w hw) _ z) rfl
theorem join_noN {ws : List Str} (h : ∀ w ∈ ws, noN w) : noN (Txt.join " " ws) := fun z => by
  rw [sepB.jl] at z
  rcases joinL_mem0 z with y | ⟨p, hp, y⟩
  · have := List.mem_singleton.mp y
    omega
  · obtain ⟨w, hw, rfl⟩ := List.mem_map.mp hp
    exact h w hw y
end
end Pf
set_option Elab.async false
set_option linter.all false
set_option maxRecDepth 100000
set_option maxHeartbeats 4000000
namespace Pf
open PySem L2
local macro_rules | `(tactic| walk_at "nz") => `(tactic| (show (_ : Int) ≠ 0; omega))
local macro_rules | `(tactic| walk_at "ne") => `(tactic| first | assumption | (apply Ne.symm; assumption))
local macro_rules | `(tactic| walk_at "hp") => `(tactic| first | assumption | exact upd_same | (refine upd_get ?_ ?_; walk_at "ne"; walk_at "hp"))
local macro_rules | `(tactic| walk_at "sd") => `(tactic| first
  | (with_reducible show (_ : Int) < _; omega)
  | (with_reducible show (_ : Int) ≤ _; omega)
  | (with_reducible show (_ : Nat) < _; omega)
  | (with_reducible show (_ : Nat) ≤ _; omega)
  | rfl
  | assumption
  | exact kV_int _
  | exact kV_str _
  | (show (_ : Int) ≠ 0; omega)
  | exact SqL.of (by walk_at "hp")
  | exact ⟨_, SqL.of (by walk_at "hp")⟩
  | exact ⟨_, SqT.of (by walk_at "hp")⟩
  | exact ⟨_, (by assumption)⟩
  | exact SqT.of (by walk_at "hp")
  | exact Rd.of (by walk_at "hp")
  | exact Or.inl (SqL.of (by walk_at "hp"))
  | exact Or.inr (SqT.of (by walk_at "hp"))
  | exact Or.inr (by assumption)
  | (walk_at "hp")
  | (exact Or.inl ⟨rfl, _, SqL.of (by walk_at "hp")⟩)
  | (exact Or.inl ⟨by omega, by omega⟩)
  | (exact Or.inr ⟨by omega, by omega⟩)
  | (refine ⟨?_, ?_, ?_⟩ <;> omega)
  | omega
  | (exact small_le (by first | omega | (simp only [List.length_cons, List.length_nil]; omega)))
  | (exact small_lt (by first | omega | (simp only [List.length_cons, List.length_nil]; omega)))
  | exact Nat.le_of_ble_eq_true rfl
  | exact ⟨_, rfl⟩
  | decide)
local macro_rules | `(tactic| walk_at "st") => `(tactic| first
  | with_reducible refine sq_seq ?_
  | apply Exists.intro
  | (refine And.intro ?_ ?_; (walk_at "sd")))
local macro_rules | `(tactic| walk_at "go") => `(tactic| repeat (walk_at "st"))
section
variable {P : Program} {w : World} {K : PySem.W.Frag} {mg : Str → Option Value} {base : Heap} {a : Ad}
def spLIsName : Sp := fun vs H Q _ => ∃ w : Str, vs = [.str w] ∧ w.length ≤ 100000 ∧ ∀ H', Same H H' → Q (.bl (nameB w)) H'
theorem ok__law_is_name (T : Txt K mg a) : FnOk P w K mg base CX0 1 a.f__law_is_name a.d__law_is_name ["_law_word"] spLIsName := by
  refine T.F__law_is_name.ok sc__law_is_name (fun vs H Q E h => ?_) (fun cdv A outer s H vs Q E hr h => ?_)
  · obtain ⟨w, rfl, _⟩ := h
    rfl
  · obtain ⟨w, rfl, hl, q⟩ := h
    have hsz : w.length ≤ sizeLine := small_le hl
    refine ⟨_, (pss_one (ps_ret (pe_and (pe_chain op_lt op_lt pe_int (pe_callB call_len_str (by rfl) T.z_len PySem.boot_len (pa_cons (pv 0) pa_nil)) pe_int) (pe_one (pe_callB (cr_all rfl) (by rfl) T.z_all (by decide +kernel) (pa_cons (pe_lc (own := [("_law_sign", 1)]) (g := gName 1) (tt := tYes) rfl sc__law_is_name.nd (pi_str (pv 0)) (blkOk_by (own := [("_law_sign", 1)]) (N := n__law_is_name) (sc := defScope s__law_is_name) (by decide +kernel)) (fun _ _ _ _ _ => (pg_name (i := 1) sc__law_is_name.nd rfl (Or.inl rfl))) (fun _ _ _ _ _ => pts_nil) (fun _ _ _ _ _ => (pe_cmpR op_in_str (pv 1) pe_str rfl))) pa_nil)))))), ?_⟩
    walk_at "go"
    refine ifD (fun h1 => ?_) (fun h1 => ?_)
    · walk_at "go"
      refine ifD (fun h2 => ?_) (fun h2 => ?_)
      · walk_at "go"
        intro D hD
        refine lcW (walk_str (z := w)) (fun i H' => H' D = some (.lst ((((w.cps.toList.take i).map fun c => decide (c ∈ (Str.ofString "abcdefghijklmnopqrstuvwxyz").cps.toList))).map V.bl)) ∧ Same H H') ?_ ?_ ?_ ?_
        · exact ⟨upd_same, Same.upd_new hD⟩
        · exact fun _ _ _ _ => trivial
        · rintro i x H1 _ hi ⟨g1, g2⟩ ⟨rfl, c, hc, rfl⟩
          have hc2 : w.cps.toList[i]? = some c := by rw [Array.getElem?_toList]; exact hc
          have hlt : (w.cps.toList.take i).length ≤ 8 := by
            rw [List.length_take, Array.length_toList]
            have : w.length = w.cps.size := rfl
            omega
          refine ⟨rfl, ?_⟩
          walk_at "go"
          refine ⟨small_lt (by rw [List.length_map, List.length_map]; omega), wait ⟨?_, fun x o e => upd_get (ne_of_none e hD) (g2 x o e)⟩⟩
          rw [upd_same, StrLaws.found_one, List.take_add_one, hc2, List.map_append, List.map_append] <;> rfl
        · rintro H1 ⟨g1, g2⟩
          walk_at "go"
          have e1 : nameB w = ((w.cps.toList.take w.cps.size).map fun c => decide (c ∈ (Str.ofString "abcdefghijklmnopqrstuvwxyz").cps.toList)).all id := by
            rw [List.take_of_length_le (by rw [Array.length_toList] <;> omega), List.all_map]
            unfold nameB
            rw [decide_eq_true (show 1 ≤ w.length by omega), decide_eq_true (show w.length ≤ 8 by omega)] <;> rfl
          rw [← e1]
          exact q _ g2
      · have e1 : nameB w = false := by
          unfold nameB
          rw [decide_eq_false (show ¬ w.length ≤ 8 by omega), Bool.and_false, Bool.false_and]
        rw [← e1]
        exact q _ (fun _ _ e => e)
    · have e1 : nameB w = false := by
        unfold nameB
        rw [decide_eq_false (show ¬ 1 ≤ w.length by omega), Bool.false_and, Bool.false_and]
      refine ⟨_, rfl, ifF rfl ?_⟩
      rw [← e1]
      exact q _ (fun _ _ e => e)
def spPairFits (C : Unit) : Sp := fun vs H Q _ => ∃ (A t : Addr) (L : List (Addr × Pr)) (p : Pr), vs = [.ref A, .ref t] ∧ PairsAt H A L ∧ PrAt H (t, p) ∧ L.length ≤ 6 ∧ p.near.length ≤ 100000 ∧ p.far.length ≤ 100000 ∧
  ∀ H', Same H H' → Q (.bl (fitsP (L.map (·.2)) p)) H'
theorem ok__law_pair_fits (T : Txt K mg a) : FnOk P w K mg base CX0 2 a.f__law_pair_fits a.d__law_pair_fits ["_law_ahead", "_law_pair"] (spPairFits ()) := by
  have G__law_is_name := ok__law_is_name (P := P) (w := w) (base := base) T
  refine T.F__law_pair_fits.ok sc__law_pair_fits (fun vs H Q E h => ?_) (fun cdv A outer s H vs Q E hr h => ?_)
  · obtain ⟨A, t, L, p, rfl, _⟩ := h
    rfl
  · obtain ⟨A, t, L, p, rfl, PA, hp, hl, l1, l2, q⟩ := h
    have hls := PA.ls
    have hp1 : H t = some (.tup [.str p.near, .str p.far, .bl p.laden]) := hp
    have lm : (L.map fun e => V.ref e.1).length = L.length := List.length_map _
    have bad : ∀ H', Same H H' → fitsP (L.map (·.2)) p = false → Q (.bl false) H' := fun H' s e => by rw [← e]; exact q H' s
    refine ⟨_, (pss_cons (ps_asg (pv 1) (pg_tup rfl (pgs_cons (pg_name (i := 2) sc__law_pair_fits.nd rfl (Or.inl rfl)) (pgs_cons (pg_name (i := 3) sc__law_pair_fits.nd rfl (Or.inl rfl)) (pgs_cons (pg_name (i := 4) sc__law_pair_fits.nd rfl (Or.inl rfl)) pgs_nil)))))
      (pss_cons (ps_if (PW.pt (pw_or (pt_cmpR op_gt (pe_callB call_lenK (by rfl) T.z_len PySem.boot_len (pa_cons (pv 0) pa_nil)) pe_int (nomark _)) (pw_or (pt_not (pt_val (pe_call G__law_is_name (hr.mono (by decide)) rfl T.m__law_is_name T.F__law_is_name.kp T.b__law_is_name .nil pass0 (pa_cons (pv 2) pa_nil)))) (pw_or1 (pt_not (pt_val (pe_call G__law_is_name (hr.mono (by decide)) rfl T.m__law_is_name T.F__law_is_name.kp T.b__law_is_name .nil pass0 (pa_cons (pv 3) pa_nil)))))))) (pss_one (ps_ret pe_bl)) pss_nil)
      (pss_one (ps_ret (pe_and (pe_cmpR op_notIn_seq (pv 2) (pe_lc (own := [("_law_one", 5)]) (g := gName 5) (tt := tYes) (te := (tOp (rIxT K) _ _)) rfl sc__law_pair_fits.nd (pi_list (pv 0)) (blkOk_by (own := [("_law_one", 5)]) (N := n__law_pair_fits) (sc := defScope s__law_pair_fits) (by decide +kernel)) (fun _ _ _ _ _ => (pg_name (i := 5) sc__law_pair_fits.nd rfl (Or.inl rfl))) (fun _ _ _ _ _ => pts_nil) (fun _ _ _ _ _ => (pe_ix ix_tup (pv 5) pe_int (fun _ _ => rfl)))) (by rfl)) (pe_one (pe_cmpR op_notIn_seq (pv 3) (pe_lc (own := [("_law_one", 5)]) (g := gName 5) (tt := tYes) (te := (tOp (rIxT K) _ _)) rfl sc__law_pair_fits.nd (pi_list (pv 0)) (blkOk_by (own := [("_law_one", 5)]) (N := n__law_pair_fits) (sc := defScope s__law_pair_fits) (by decide +kernel)) (fun _ _ _ _ _ => (pg_name (i := 5) sc__law_pair_fits.nd rfl (Or.inl rfl))) (fun _ _ _ _ _ => pts_nil) (fun _ _ _ _ _ => (pe_ix ix_tup (pv 5) pe_int (fun _ _ => rfl)))) (by rfl)))))))), ?_⟩
    walk_at "go"
    refine ifD (fun b => ?_) (fun b => ?_)
    · have e6 : L.length = 6 := by omega
      refine ifT rfl ?_
      walk_at "go"
      refine bad _ (fun _ _ e => e) ?_
      unfold fitsP
      rw [decide_eq_false (show ¬ (L.map (·.2)).length ≠ 6 by rw [List.length_map]; exact fun z => z e6)]
      simp
    · have e6 : (L.map (·.2)).length ≠ 6 := by rw [List.length_map]; omega
      walk_at "go"
      intro H1 s1
      cases en : nameB p.near with
      | false =>
        walk_at "go"
        exact bad _ s1 (by unfold fitsP; rw [en]; simp)
      | true =>
        walk_at "go"
        intro H2 s2
        cases ef : nameB p.far with
        | false =>
          walk_at "go"
          exact bad _ (s1.trans s2) (by unfold fitsP; rw [ef]; simp)
        | true =>
          have s12 := s1.trans s2
          have PA2 := PA.same s12
          have ls2 := PA2.ls
          walk_at "go"
          intro D hD
          refine lcL (K := K) (a := A) (xs := L.map fun e => V.ref e.1) (fun i H' => H' D = some (.lst (((L.take i).map fun e => e.2.near).map V.str)) ∧ Same H2 H') ?_ ?_ ?_ ?_
          · exact ⟨upd_same, Same.upd_new hD⟩
          · exact fun i H' _ h => SqL.of (h.2 _ _ ls2)
          · rintro i y H' hi ⟨g1, g2⟩
            rw [List.getElem?_map] at hi
            obtain ⟨e, he, rfl⟩ := Option.map_eq_some_iff.mp hi
            have hp : H' e.1 = _ := g2 _ _ (PA2.at_ e (List.mem_of_getElem? he))
            have hlt := (List.getElem?_eq_some_iff.mp he).1
            have hat : atI [V.str e.2.near, .str e.2.far, .bl e.2.laden] 0 = some (.str e.2.near) := rfl
            refine ⟨rfl, ?_⟩
            walk_at "go"
            refine ⟨small_lt (by rw [List.length_map, List.length_map, List.length_take]; omega), wait ⟨?_, fun x o e => upd_get (ne_of_none e hD) (g2 x o e)⟩⟩
            rw [upd_same, List.take_add_one, he, List.map_append, List.map_append] <;> rfl
          · rintro H3 ⟨g1, g2⟩
            rw [List.length_map, List.take_length] at g1
            refine ⟨D, _, rfl, .inl (SqL.of g1), rfl, flat_strs1 _, ?_⟩
            rw [if_pos rfl, in_strs]
            have PA3 := PA2.same g2
            have ls3 := PA3.ls
            by_cases i1 : p.near ∈ L.map fun e => e.2.near
            · rw [decide_eq_true i1]
              refine ⟨_, rfl, ifF rfl ?_⟩
              refine bad _ (s12.trans g2) ?_
              unfold fitsP
              rw [decide_eq_false (show ¬ p.near ∉ (L.map (·.2)).map (·.near) by rw [List.map_map]; exact fun z => z i1)]
              simp
            · rw [decide_eq_false i1]
              refine ⟨_, rfl, ifT rfl ?_⟩
              walk_at "go"
              intro D2 hD2
              refine lcL (K := K) (a := A) (xs := L.map fun e => V.ref e.1) (fun i H' => H' D2 = some (.lst (((L.take i).map fun e => e.2.far).map V.str)) ∧ Same H3 H') ?_ ?_ ?_ ?_
              · exact ⟨upd_same, Same.upd_new hD2⟩
              · exact fun i H' _ h => SqL.of (h.2 _ _ ls3)
              · rintro i y H' hi ⟨f1, f2⟩
                rw [List.getElem?_map] at hi
                obtain ⟨e, he, rfl⟩ := Option.map_eq_some_iff.mp hi
                have hp : H' e.1 = _ := f2 _ _ (PA3.at_ e (List.mem_of_getElem? he))
                have hlt := (List.getElem?_eq_some_iff.mp he).1
                have hat : atI [V.str e.2.near, .str e.2.far, .bl e.2.laden] 1 = some (.str e.2.far) := rfl
                refine ⟨rfl, ?_⟩
                walk_at "go"
                refine ⟨small_lt (by rw [List.length_map, List.length_map, List.length_take]; omega), wait ⟨?_, fun x o e => upd_get (ne_of_none e hD2) (f2 x o e)⟩⟩
                rw [upd_same, List.take_add_one, he, List.map_append, List.map_append] <;> rfl
              · rintro H4 ⟨f1, f2⟩
                rw [List.length_map, List.take_length] at f1
                refine ⟨D2, _, rfl, .inl (SqL.of f1), rfl, flat_strs1 _, ?_⟩
                rw [if_pos rfl, in_strs]
                have ef2 : fitsP (L.map (·.2)) p = !decide (p.far ∈ L.map fun e => e.2.far) := by
                  unfold fitsP
                  rw [decide_eq_true e6, en, ef, decide_eq_true (show p.near ∉ (L.map (·.2)).map (·.near) by rw [List.map_map]; exact i1), List.map_map]
                  show (true && true && true && true && decide (p.far ∉ L.map fun e => e.2.far)) = _
                  simp
                rw [← ef2]
                exact q _ ((s12.trans g2).trans f2)
end
end Pf
set_option Elab.async false
set_option linter.all false
set_option maxRecDepth 100000
set_option maxHeartbeats 4000000
namespace Pf
open PySem L2
local macro_rules | `(tactic| walk_at "nz") => `(tactic| (show (_ : Int) ≠ 0; omega))
local macro_rules | `(tactic| walk_at "ne") => `(tactic| first | assumption | (apply Ne.symm; assumption))
local macro_rules | `(tactic| walk_at "hp") => `(tactic| first | assumption | exact upd_same | (refine upd_get ?_ ?_; walk_at "ne"; walk_at "hp"))
local macro_rules | `(tactic| walk_at "sd") => `(tactic| first
  | (with_reducible show (_ : Int) < _; omega)
  | (with_reducible show (_ : Int) ≤ _; omega)
  | (with_reducible show (_ : Nat) < _; omega)
  | (with_reducible show (_ : Nat) ≤ _; omega)
  | rfl
  | assumption
  | exact kV_int _
  | exact kV_str _
  | (show (_ : Int) ≠ 0; omega)
  | exact SqL.of (by walk_at "hp")
  | exact ⟨_, SqL.of (by walk_at "hp")⟩
  | exact ⟨_, SqT.of (by walk_at "hp")⟩
  | exact ⟨_, (by assumption)⟩
  | exact SqT.of (by walk_at "hp")
  | exact Rd.of (by walk_at "hp")
  | exact Or.inl (SqL.of (by walk_at "hp"))
  | exact Or.inr (SqT.of (by walk_at "hp"))
  | exact Or.inr (by assumption)
  | (walk_at "hp")
  | (exact Or.inl ⟨rfl, _, SqL.of (by walk_at "hp")⟩)
  | (exact Or.inl ⟨by omega, by omega⟩)
  | (exact Or.inr ⟨by omega, by omega⟩)
  | (refine ⟨?_, ?_, ?_⟩ <;> omega)
  | omega
  | (exact small_le (by first | omega | (simp only [List.length_cons, List.length_nil]; omega)))
  | (exact small_lt (by first | omega | (simp only [List.length_cons, List.length_nil]; omega)))
  | exact Nat.le_of_ble_eq_true rfl
  | exact ⟨_, rfl⟩
  | decide)
local macro_rules | `(tactic| walk_at "st") => `(tactic| first
  | with_reducible refine sq_seq ?_
  | apply Exists.intro
  | (refine And.intro ?_ ?_; (walk_at "sd")))
local macro_rules | `(tactic| walk_at "go") => `(tactic| repeat (walk_at "st"))
section
variable {P : Program} {w : World} {K : PySem.W.Frag} {mg : Str → Option Value} {base : Heap} {a : Ad}
def spHelperFits (K : PySem.W.Frag) : Sp := fun vs H Q _ => ∃ (D A t : Addr) (L : List (Addr × Pr)) (M : List (Addr × Hl)) (h : Hl), vs = [.ref D, .ref A, .ref t] ∧ PairsAt H D L ∧ HelpersAt K H A M ∧ HlAt K H (t, h) ∧ L.length ≤ 10000 ∧ M.length ≤ 10000 ∧ (∀ s : Int, ((M.map (·.2)).filter fun k => decide (k.side = s)).length ≤ 4) ∧ h.name.length ≤ 100000 ∧ h.takes.length ≤ 4000 ∧ h.throws.length ≤ 4000 ∧
  ∀ H', Same H H' → Q (.bl (fitsH (L.map (·.2)) (M.map (·.2)) h)) H'
theorem ok__law_helper_fits (T : Txt K mg a) : FnOk P w K mg base CX0 2 a.f__law_helper_fits a.d__law_helper_fits ["_law_pairs_here", "_law_ahead", "_law_helper"] (spHelperFits K) := by
  have G__law_is_name := ok__law_is_name (P := P) (w := w) (base := base) T
  refine T.F__law_helper_fits.ok sc__law_helper_fits (fun vs H Q E h => ?_) (fun cdv A outer s H vs Q E hr h => ?_)
  · obtain ⟨D, A, t, L, M, h, rfl, _⟩ := h
    rfl
  · obtain ⟨D, A, t, L, M, h, rfl, PD, HA, HT, l1, l2, few, l3, l4, l5, q⟩ := h
    obtain ⟨tk, th, ht, htk, hth⟩ := HT
    have ht : H t = some (.tup [.str h.name, .int h.side, .ref tk, .bl h.gives, .ref th]) := ht
    have hls := HA.ls
    have bad : ∀ H', Same H H' → fitsH (L.map (·.2)) (M.map (·.2)) h = false → Q (.bl false) H' := fun H' s e => by rw [← e]; exact q H' s
    have lt : (h.takes.map V.str).length = h.takes.length := List.length_map _
    have lh : (h.throws.map V.str).length = h.throws.length := List.length_map _
    refine ⟨_, (pss_cons (ps_asg (pv 2) (pg_tup rfl (pgs_cons (pg_name (i := 3) sc__law_helper_fits.nd rfl (Or.inl rfl)) (pgs_cons (pg_name (i := 4) sc__law_helper_fits.nd rfl (Or.inr rfl)) (pgs_cons (pg_name (i := 5) sc__law_helper_fits.nd rfl (Or.inl rfl)) (pgs_cons (pg_name (i := 6) sc__law_helper_fits.nd rfl (Or.inl rfl)) (pgs_cons (pg_name (i := 7) sc__law_helper_fits.nd rfl (Or.inl rfl)) pgs_nil)))))))
      (pss_cons (ps_if (pt_mid (PW.pt (pw_or (pt_not (pt_val (pe_call G__law_is_name (hr.mono (by decide)) rfl T.m__law_is_name T.F__law_is_name.kp T.b__law_is_name .nil pass0 (pa_cons (pv 3) pa_nil)))) (pw_or (pt_cmpR op_in_seq (pv 3) (pe_lc (own := [("_law_one", 11)]) (g := gName 11) (tt := tYes) (te := (tOp (rIxT K) _ _)) rfl sc__law_helper_fits.nd (pi_list (pv 1)) (blkOk_by (own := [("_law_one", 11)]) (N := n__law_helper_fits) (sc := defScope s__law_helper_fits) (by decide +kernel)) (fun _ _ _ _ _ => (pg_name (i := 11) sc__law_helper_fits.nd rfl (Or.inl rfl))) (fun _ _ _ _ _ => pts_nil) (fun _ _ _ _ _ => (pe_ix ix_tup (pv 11) pe_int (fun _ _ => rfl)))) (by rfl)) (pw_or (pt_cmpR op_lt (pv 4) pe_int (nomark _)) (pw_or1 (pt_cmpR op_gt (pv 4) pe_int (nomark _)))))))) (pss_one (ps_ret pe_bl)) pss_nil)
      (pss_cons (ps_if (pt_mid (PW.pt (pw_or (pt_cmpR op_gt (pe_callB call_lenK (by rfl) T.z_len PySem.boot_len (pa_cons (pe_lc (own := [("_law_one", 11)]) (g := gName 11) (tt := (tTest (tOp _ (tOp (rIxT K) _ _) _))) rfl sc__law_helper_fits.nd (pi_list (pv 1)) (blkOk_by (own := [("_law_one", 11)]) (N := n__law_helper_fits) (sc := defScope s__law_helper_fits) (by decide +kernel)) (fun _ _ _ _ _ => (pg_name (i := 11) sc__law_helper_fits.nd rfl (Or.inl rfl))) (fun _ _ _ _ _ => (pts_one (pt_cmpR op_eq (pe_ix ix_tup (pv 11) pe_int (fun _ _ => rfl)) (pv 4) (nomark _)))) (fun _ _ _ _ _ => (pv 11))) pa_nil)) pe_int (nomark _)) (pw_or (pt_cmpR op_gt (pe_callB call_lenK (by rfl) T.z_len PySem.boot_len (pa_cons (pv 5) pa_nil)) pe_int (nomark _)) (pw_or1 (pt_cmpR op_gt (pe_callB call_lenK (by rfl) T.z_len PySem.boot_len (pa_cons (pv 7) pa_nil)) pe_int (nomark _))))))) (pss_one (ps_ret pe_bl)) pss_nil)
      (pss_cons (ps_setLc (i := 8) (own := [("_law_pair", 12)]) (g := gName 12) (tt := tYes) (te := (tOp (rIxT K) _ _)) rfl sc__law_helper_fits.nd rfl rfl (sw_true rfl rfl rfl (by decide +kernel)) (pi_list (pv 0)) (blkOk_by (own := [("_law_pair", 12)]) (N := n__law_helper_fits) (sc := defScope s__law_helper_fits) (by decide +kernel)) (fun _ _ _ _ _ => (pg_name (i := 12) sc__law_helper_fits.nd rfl (Or.inl rfl))) (fun _ _ _ _ _ => pts_nil) (fun _ _ _ _ _ => (pe_ix ix_tup (pv 12) (pv 4) (fun _ _ => rfl))))
      (pss_cons (ps_stop (ps_for PassesOwn.never rfl (pi_wait (pi_enumT rfl T.z_enumerate (pa_cons (pv 7) pa_nil))) (pg_tup rfl (pgs_cons (pg_name (i := 9) sc__law_helper_fits.nd rfl (Or.inl rfl)) (pgs_cons (pg_name (i := 10) sc__law_helper_fits.nd rfl (Or.inl rfl)) pgs_nil))) (pss_one (ps_if (PW.pt (pw_or (pt_cmpR op_notIn_seq (pv 10) (pv 8) (by rfl)) (pw_or1 (pt_cmpR op_in_seq (pv 10) (pe_slice sl_tupA (pv 7) po_none (po_some (pv 9))) (by rfl))))) (pss_one (ps_ret pe_bl)) pss_nil))))
      (pss_one (ps_ret (pe_callB (cr_all rfl) (by rfl) T.z_all (by decide +kernel) (pa_cons (pe_lc (own := [("_law_how", 13)]) (g := gName 13) (tt := tYes) (te := (tOp (rIn K false) _ _)) rfl sc__law_helper_fits.nd (pi_tup (pv 5)) (blkOk_by (own := [("_law_how", 13)]) (N := n__law_helper_fits) (sc := defScope s__law_helper_fits) (by decide +kernel)) (fun _ _ _ _ _ => (pg_name (i := 13) sc__law_helper_fits.nd rfl (Or.inl rfl))) (fun _ _ _ _ _ => pts_nil) (fun _ _ _ _ _ => (pe_cmpR op_in_seq (pv 13) (pe_lst (pa_cons pe_str (pa_cons pe_str pa_nil))) (by rfl)))) pa_nil))))))))), ?_⟩
    walk_at "go"
    refine midT_of (fun c H1 => Same H H1 ∧ (c = true → fitsH (L.map (·.2)) (M.map (·.2)) h = false) ∧ (c = false → nameB h.name = true ∧ h.name ∉ (M.map (·.2)).map (·.name) ∧ (h.side = 0 ∨ h.side = 1))) ?_ ?_
    · walk_at "go"
      intro H1 s1
      cases en : nameB h.name with
      | false =>
        walk_at "go"
        exact wait ⟨s1, fun _ => by unfold fitsH; rw [en]; simp, fun z => nomatch z⟩
      | true =>
        have HA1 := HA.same s1
        have ls1 := HA1.ls
        walk_at "go"
        intro Z hZ
        refine lcL (K := K) (a := A) (xs := M.map fun e => V.ref e.1) (fun i H' => H' Z = some (.lst (((M.take i).map fun e => e.2.name).map V.str)) ∧ Same H1 H') ?_ ?_ ?_ ?_
        · exact ⟨upd_same, Same.upd_new hZ⟩
        · exact fun i H' _ h => SqL.of (h.2 _ _ ls1)
        · rintro i y H' hi ⟨g1, g2⟩
          rw [List.getElem?_map] at hi
          obtain ⟨e, he, rfl⟩ := Option.map_eq_some_iff.mp hi
          obtain ⟨tk1, th1, hp, _, _⟩ := (HA1.at_ e (List.mem_of_getElem? he)).tk (TK.same g2)
          have hlt := (List.getElem?_eq_some_iff.mp he).1
          have hat : atI [V.str e.2.name, .int e.2.side, .ref tk1, .bl e.2.gives, .ref th1] 0 = some (.str e.2.name) := rfl
          refine ⟨rfl, ?_⟩
          walk_at "go"
          refine ⟨small_lt (by rw [List.length_map, List.length_map, List.length_take]; omega), wait ⟨?_, fun x o e => upd_get (ne_of_none e hZ) (g2 x o e)⟩⟩
          rw [upd_same, List.take_add_one, he, List.map_append, List.map_append] <;> rfl
        · rintro H2 ⟨g1, g2⟩
          rw [List.length_map, List.take_length] at g1
          refine ⟨Z, _, rfl, .inl (SqL.of g1), rfl, flat_strs1 _, ?_⟩
          rw [if_neg (by decide), in_strs]
          by_cases hin : h.name ∈ M.map fun e => e.2.name
          · rw [decide_eq_true hin]
            refine ⟨_, rfl, ifT rfl (wait ⟨s1.trans g2, fun _ => ?_, fun z => nomatch z⟩)⟩
            unfold fitsH
            rw [decide_eq_false (show ¬ h.name ∉ (M.map (·.2)).map (·.name) by rw [List.map_map]; exact fun z => z hin)]
            simp
          · rw [decide_eq_false hin]
            refine ⟨_, rfl, ifF rfl ?_⟩
            walk_at "go"
            refine ifD (fun b => ?_) (fun b => ?_)
            · refine wait ⟨s1.trans g2, fun _ => ?_, fun z => nomatch z⟩
              unfold fitsH
              rw [decide_eq_false (show ¬ (h.side = 0 ∨ h.side = 1) by omega)]
              simp
            · walk_at "go"
              refine wait ⟨s1.trans g2, fun b2 => ?_, fun b2 => ⟨rfl, by rw [List.map_map]; exact hin, ?_⟩⟩
              · have b3 := of_decide_eq_true b2
                unfold fitsH
                rw [decide_eq_false (show ¬ (h.side = 0 ∨ h.side = 1) by omega)]
                simp
              · have b3 := of_decide_eq_false b2
                omega
    · rintro c H1 ⟨s1, c1, c2⟩
      refine ifB (fun ec => ?_) (fun ec => ?_)
      · walk_at "go"
        exact bad _ s1 (c1 ec)
      · obtain ⟨en, hin, hsd⟩ := c2 ec
        have HA1 := HA.same s1
        have ls1 := HA1.ls
        walk_at "go"
        refine midT_of (fun c H2 => Same H1 H2 ∧ (c = true → fitsH (L.map (·.2)) (M.map (·.2)) h = false) ∧ (c = false → ((M.map (·.2)).filter fun k => decide (k.side = h.side)).length ≠ 4 ∧ h.takes.length ≤ 3 ∧ h.throws.length ≤ 4)) ?_ ?_
        · walk_at "go"
          intro Z hZ
          refine lcL (K := K) (a := A) (xs := M.map fun e => V.ref e.1) (fun i H' => H' Z = some (.lst (((M.take i).filter fun e => decide (e.2.side = h.side)).map fun e => V.ref e.1)) ∧ Same H1 H') ?_ ?_ ?_ ?_
          · exact ⟨upd_same, Same.upd_new hZ⟩
          · exact fun i H' _ h => SqL.of (h.2 _ _ ls1)
          · rintro i y H' hi ⟨g1, g2⟩
            rw [List.getElem?_map] at hi
            obtain ⟨e, he, rfl⟩ := Option.map_eq_some_iff.mp hi
            obtain ⟨tk1, th1, hp, _, _⟩ := (HA1.at_ e (List.mem_of_getElem? he)).tk (TK.same g2)
            have hat : atI [V.str e.2.name, .int e.2.side, .ref tk1, .bl e.2.gives, .ref th1] 1 = some (.int e.2.side) := rfl
            have fl := filt_len (fun e : Addr × Hl => decide (e.2.side = h.side)) M i
            refine ⟨rfl, ?_⟩
            walk_at "go"
            refine ifD (fun b => ?_) (fun b => ?_)
            · have b1 : e.2.side = h.side := V.int.inj b
              walk_at "go"
              refine ⟨small_lt (by rw [List.length_map]; omega), wait ⟨?_, fun x o e => upd_get (ne_of_none e hZ) (g2 x o e)⟩⟩
              rw [upd_same, take_filt_yes he (decide_eq_true b1), List.map_append] <;> rfl
            · have b1 : ¬ e.2.side = h.side := fun z => b (congrArg V.int z)
              refine wait ⟨?_, g2⟩
              rw [take_filt_no he (decide_eq_false b1)]
              exact g1
          · rintro H2 ⟨g1, g2⟩
            rw [List.length_map, List.take_length] at g1
            have lf : ((M.filter fun e => decide (e.2.side = h.side)).map fun e => V.ref e.1).length = ((M.map (·.2)).filter fun k => decide (k.side = h.side)).length := by
              rw [List.length_map, List.filter_map, List.length_map] <;> rfl
            have fw := few h.side
            have s12 := s1.trans g2
            have htk2 := s12.seqT htk
            have hth2 := s12.seqT hth
            refine ⟨_, _, rfl, .inl (SqL.of g1), _, _, rfl, rfl, _, rfl, ?_⟩
            rw [lf]
            refine ifD (fun b => ?_) (fun b => ?_)
            · refine wait ⟨g2, fun _ => ?_, fun z => nomatch z⟩
              unfold fitsH
              rw [decide_eq_false (show ¬ ((M.map (·.2)).filter fun k => decide (k.side = h.side)).length ≠ 4 from fun z => z (by omega))]
              simp
            · have b1 : ((M.map (·.2)).filter fun k => decide (k.side = h.side)).length ≠ 4 := by omega
              refine ⟨_, rfl, tk, _, rfl, .inr htk2, _, _, rfl, rfl, _, rfl, ?_⟩
              rw [lt]
              refine ifD (fun b2 => ?_) (fun b2 => ?_)
              · refine wait ⟨g2, fun _ => ?_, fun z => nomatch z⟩
                unfold fitsH
                rw [decide_eq_false (show ¬ h.takes.length ≤ 3 by omega)]
                simp
              · refine ⟨_, rfl, th, _, rfl, .inr hth2, _, _, rfl, rfl, _, rfl, ?_⟩
                rw [lh]
                refine wait ⟨g2, fun b3 => ?_, fun b3 => ⟨b1, by omega, ?_⟩⟩
                · have b4 := of_decide_eq_true b3
                  unfold fitsH
                  rw [decide_eq_false (show ¬ h.throws.length ≤ 4 by omega)]
                  simp
                · have b4 := of_decide_eq_false b3
                  omega
        · rintro c H2 ⟨s2, c3, c4⟩
          have s12 := s1.trans s2
          refine ifB (fun ed => ?_) (fun ed => ?_)
          · walk_at "go"
            exact bad _ s12 (c3 ed)
          · obtain ⟨n4, t3, h4⟩ := c4 ed
            have fc := FitsH.cons (ps := L.map (·.2)) en hin hsd n4 t3 h4
            have PD2 := PD.same s12
            have ls2 := PD2.ls
            walk_at "go"
            intro W hW
            refine lcL (K := K) (a := D) (xs := L.map fun e => V.ref e.1) (fun i H' => H' W = some (.lst (((L.take i).map fun e => e.2.word h.side).map V.str)) ∧ Same H2 H') ?_ ?_ ?_ ?_
            · exact ⟨upd_same, Same.upd_new hW⟩
            · exact fun i H' _ h => SqL.of (h.2 _ _ ls2)
            · rintro i y H' hi ⟨g1, g2⟩
              rw [List.getElem?_map] at hi
              obtain ⟨e, he, rfl⟩ := Option.map_eq_some_iff.mp hi
              have hp : H' e.1 = _ := g2 _ _ (PD2.at_ e (List.mem_of_getElem? he))
              have hlt := (List.getElem?_eq_some_iff.mp he).1
              have hat := pr_at e.2 hsd
              refine ⟨rfl, ?_⟩
              walk_at "go"
              refine ⟨small_lt (by rw [List.length_map, List.length_map, List.length_take]; omega), wait ⟨?_, fun x o e => upd_get (ne_of_none e hW) (g2 x o e)⟩⟩
              rw [upd_same, List.take_add_one, he, List.map_append, List.map_append] <;> rfl
            · rintro H3 ⟨g1, g2⟩
              rw [List.length_map, List.take_length] at g1
              have s13 := s12.trans g2
              have hth3 := s13.seqT hth
              have htk3 := s13.seqT htk
              refine sq_seq (stop_in ?_)
              walk_at "go"
              refine wait ?_
              refine forW (walk_enumT (K := K) (xs := h.throws.map V.str)) (fun i σ H' => (∃ u9 u10, σ = [some (.ref D), some (.ref A), some (.ref t), some (.str h.name), some (.int h.side), some (.ref tk), some (.bl h.gives), some (.ref th), some (.ref W), u9, u10, none, none, none]) ∧ Same H3 H' ∧ ∀ j < i, ∀ w, h.throws[j]? = some w → w ∈ (L.map fun e => e.2.word h.side) ∧ w ∉ h.throws.take j) ?_ ?_ ?_ ?_
              · exact ⟨⟨_, _, rfl⟩, fun _ _ e => e, fun j hj => absurd hj (Nat.not_lt_zero _)⟩
              · exact fun i σ H' _ h => h.2.1.seqT hth3
              · rintro i v σ H4 H5 hi ⟨⟨u9, u10, rfl⟩, s4, af⟩ ⟨tt, y1, y2, rfl, htt, rfl, hy1, hy2⟩
                have hy2 : (h.throws.map V.str)[i]? = some y2 := hy2
                rw [List.getElem?_map] at hy2
                obtain ⟨w1, hw1, rfl⟩ := Option.map_eq_some_iff.mp hy2
                cases hy1
                have s5 : Same H4 (upd H4 tt (.tup [.int (i : Nat), .str w1])) := Same.upd_new htt
                have g5 := s5 _ _ (s4 _ _ g1)
                have hth5 := (s4.trans s5).seqT hth3
                walk_at "go"
                refine ⟨flat_strs1 _, ?_⟩
                rw [if_pos rfl, in_strs]
                by_cases hin1 : w1 ∈ L.map fun e => e.2.word h.side
                · rw [decide_eq_true hin1]
                  refine ⟨_, rfl, ifF rfl ?_⟩
                  refine ⟨_, rfl, _, rfl, _, rfl, _, rfl, slA_of (xs := h.throws.map V.str) hth5 fun r H6 s6 hr6 => ?_⟩
                  rw [cutV_to] at hr6
                  refine ⟨r, _, rfl, .inr hr6, rfl, ?_, ?_⟩
                  · rw [← List.map_take]; exact flat_strs1 _
                  · rw [if_neg (by decide), ← List.map_take, in_strs]
                    refine ⟨_, rfl, ifD (fun b => ?_) (fun b => ?_)⟩
                    · walk_at "go"
                      refine bad _ ((s13.trans (s4.trans s5)).trans s6) ?_
                      rw [fc, decide_eq_false (not_nodup hw1 b)]
                      simp
                    · refine wait ⟨⟨_, _, rfl⟩, (s4.trans s5).trans s6, fun j hj w hw => ?_⟩
                      by_cases z : j = i
                      · subst z
                        rw [hw1] at hw
                        cases hw
                        exact ⟨hin1, b⟩
                      · exact af j (by omega) w hw
                · rw [decide_eq_false hin1]
                  refine ⟨_, rfl, ifT rfl ?_⟩
                  walk_at "go"
                  refine bad _ (s13.trans (s4.trans s5)) ?_
                  rw [fc]
                  have : (h.throws.all fun w => decide (w ∈ (L.map (·.2)).map (·.word h.side))) = false := by
                    rw [List.all_eq_false]
                    refine ⟨w1, List.mem_of_getElem? hw1, ?_⟩
                    rw [List.map_map]
                    intro z
                    exact hin1 (of_decide_eq_true z)
                  rw [this]
                  simp
              · rintro σ H4 ⟨⟨u9, u10, rfl⟩, s4, af⟩
                have ndt : h.throws.Nodup := nodup_by fun j w hw => (af j (by rw [List.length_map]; exact (List.getElem?_eq_some_iff.mp hw).1) w hw).2
                have allw : (h.throws.all fun w => decide (w ∈ (L.map (·.2)).map (·.word h.side))) = true := by
                  rw [List.all_eq_true]
                  intro w hw
                  obtain ⟨j, hj⟩ := List.getElem?_of_mem hw
                  rw [List.map_map]
                  exact decide_eq_true (af j (by rw [List.length_map]; exact (List.getElem?_eq_some_iff.mp hj).1) w hj).1
                have htk4 := s4.seqT htk3
                walk_at "go"
                intro Z hZ
                refine lcT (K := K) (a := tk) (xs := h.takes.map V.str) (fun i H' => H' Z = some (.lst (((h.takes.take i).map fun w => decide (w ∈ hows)).map V.bl)) ∧ Same H4 H') ?_ ?_ ?_ ?_
                · exact ⟨upd_same, Same.upd_new hZ⟩
                · exact fun i H' _ h => h.2.seqT htk4
                · rintro i y H' hi ⟨f1, f2⟩
                  rw [List.getElem?_map] at hi
                  obtain ⟨w1, hw1, rfl⟩ := Option.map_eq_some_iff.mp hi
                  have hlt := (List.getElem?_eq_some_iff.mp hw1).1
                  refine ⟨rfl, ?_⟩
                  walk_at "go"
                  intro p6 hp6
                  have s6 : Same H' (upd H' p6 (.lst [.str "lent", .str "given"])) := Same.upd_new hp6
                  refine ⟨p6, _, rfl, .inl (SqL.of upd_same), rfl, rfl, ?_⟩
                  rw [if_neg (by decide), show inV (.str w1) [.str "lent", .str "given"] = decide (w1 ∈ hows) from in_strs w1 hows]
                  refine ⟨_, s6 _ _ f1, small_lt (by rw [List.length_map, List.length_map, List.length_take]; omega), wait ⟨?_, fun x o e => upd_get (ne_of_none e hZ) (s6 _ _ (f2 x o e))⟩⟩
                  rw [upd_same, List.take_add_one, hw1, List.map_append, List.map_append] <;> rfl
                · rintro H5 ⟨f1, f2⟩
                  rw [List.length_map, List.take_length] at f1
                  refine ⟨Z, _, rfl, SqL.of f1, ?_⟩
                  have qq := q _ (s13.trans (s4.trans f2))
                  rw [fc, decide_eq_true ndt, allw, Bool.and_true, Bool.and_true] at qq
                  rw [List.all_map]
                  exact qq
end
end Pf
set_option Elab.async false
set_option linter.all false
set_option maxRecDepth 100000
set_option maxHeartbeats 4000000
namespace Pf
open PySem L2
local macro_rules | `(tactic| walk_at "nz") => `(tactic| (show (_ : Int) ≠ 0; omega))
local macro_rules | `(tactic| walk_at "ne") => `(tactic| first | assumption | (apply Ne.symm; assumption))
local macro_rules | `(tactic| walk_at "hp") => `(tactic| first | assumption | exact upd_same | (refine upd_get ?_ ?_; walk_at "ne"; walk_at "hp"))
local macro_rules | `(tactic| walk_at "sd") => `(tactic| first
  | (with_reducible show (_ : Int) < _; omega)
  | (with_reducible show (_ : Int) ≤ _; omega)
  | (with_reducible show (_ : Nat) < _; omega)
  | (with_reducible show (_ : Nat) ≤ _; omega)
  | rfl
  | assumption
  | exact kV_int _
  | exact kV_str _
  | (show (_ : Int) ≠ 0; omega)
  | exact SqL.of (by walk_at "hp")
  | exact ⟨_, SqL.of (by walk_at "hp")⟩
  | exact ⟨_, SqT.of (by walk_at "hp")⟩
  | exact ⟨_, (by assumption)⟩
  | exact SqT.of (by walk_at "hp")
  | exact Rd.of (by walk_at "hp")
  | exact Or.inl (SqL.of (by walk_at "hp"))
  | exact Or.inr (SqT.of (by walk_at "hp"))
  | exact Or.inr (by assumption)
  | (walk_at "hp")
  | (exact Or.inl ⟨rfl, _, SqL.of (by walk_at "hp")⟩)
  | (exact Or.inl ⟨by omega, by omega⟩)
  | (exact Or.inr ⟨by omega, by omega⟩)
  | (refine ⟨?_, ?_, ?_⟩ <;> omega)
  | omega
  | (exact small_le (by first | omega | (simp only [List.length_cons, List.length_nil]; omega)))
  | (exact small_lt (by first | omega | (simp only [List.length_cons, List.length_nil]; omega)))
  | exact Nat.le_of_ble_eq_true rfl
  | exact ⟨_, rfl⟩
  | decide)
local macro_rules | `(tactic| walk_at "st") => `(tactic| first
  | with_reducible refine sq_seq ?_
  | apply Exists.intro
  | (refine And.intro ?_ ?_; (walk_at "sd")))
local macro_rules | `(tactic| walk_at "go") => `(tactic| repeat (walk_at "st"))
section
variable {P : Program} {w : World} {K : PySem.W.Frag} {mg : Str → Option Value} {base : Heap} {a : Ad}
theorem pre_six {ps : List Pr} {i : Nat} (h : ∀ j < i, ∀ p, ps[j]? = some p → fitsP (ps.take j) p = true) (hi : i ≤ ps.length) : i ≤ 6 := by
  by_cases e : i ≤ 6
  · exact e
  · have h6 := h 6 (by omega) ps[6] (List.getElem?_eq_getElem (by omega))
    unfold fitsP at h6
    rw [decide_eq_false (show ¬ (ps.take 6).length ≠ 6 by rw [List.length_take]; omega)] at h6
    simp at h6
theorem pre_few {ps : List Pr} {hs : List Hl} : ∀ {i : Nat}, (∀ j < i, ∀ h, hs[j]? = some h → fitsH ps (hs.take j) h = true) → i ≤ hs.length → ∀ s : Int, ((hs.take i).filter fun k => decide (k.side = s)).length ≤ 4
  | 0, _, _, s => by simp
  | i + 1, h, hi, s => by
    have ih := pre_few (i := i) (fun j hj => h j (by omega)) (by omega) s
    have hh : hs[i]? = some hs[i] := List.getElem?_eq_getElem (by omega)
    have f := h i (by omega) _ hh
    by_cases e : hs[i].side = s
    · rw [take_filt_yes hh (decide_eq_true e), List.length_append]
      unfold fitsH at f
      simp only [Bool.and_eq_true] at f
      have n4 := of_decide_eq_true f.1.1.1.1.1.2
      rw [e] at n4
      show _ + 1 ≤ 4
      omega
    · rw [take_filt_no hh (decide_eq_false e)]
      exact ih
theorem PairsAt.take {H : Hp} {D : Addr} {L : List (Addr × Pr)} (h : ∀ e ∈ L, PrAt H e) {k : Nat} (hd : H D = some (.lst ((L.take k).map fun e => V.ref e.1))) : PairsAt H D (L.take k) := ⟨hd, fun e he => h e (List.mem_of_mem_take he)⟩
def spFirstBad (K : PySem.W.Frag) : Sp := fun vs H Q _ => ∃ (D A : Addr) (L : List (Addr × Pr)) (M : List (Addr × Hl)), vs = [.ref D, .ref A] ∧ PairsAt H D L ∧ HelpersAt K H A M ∧ SzP (L.map (·.2)) ∧ SzH (M.map (·.2)) ∧
  ∀ z H', FB (L.map (·.2)) (M.map (·.2)) z → Same H H' → Q (.int z) H'
theorem ok__law_first_bad (T : Txt K mg a) : FnOk P w K mg base CX0 3 a.f__law_first_bad a.d__law_first_bad ["_law_pairs_here", "_law_helpers_here"] (spFirstBad K) := by
  have G__law_pair_fits := ok__law_pair_fits (P := P) (w := w) (base := base) T
  have G__law_helper_fits := ok__law_helper_fits (P := P) (w := w) (base := base) T
  refine T.F__law_first_bad.ok sc__law_first_bad (fun vs H Q E h => ?_) (fun cdv A outer s H vs Q E hr h => ?_)
  · obtain ⟨D, A, L, M, rfl, _⟩ := h
    rfl
  · obtain ⟨D, A, L, M, rfl, PD, HA, zP, zH, q⟩ := h
    have zl := zP.len
    have zm := zH.len
    rw [List.length_map] at zl zm
    have hls := PD.ls
    refine ⟨_, (pss_cons (ps_stop (ps_for PassesOwn.never rfl (pi_wait (pi_enum rfl T.z_enumerate (pa_cons (pv 0) pa_nil))) (pg_tup rfl (pgs_cons (pg_name (i := 2) sc__law_first_bad.nd rfl (Or.inl rfl)) (pgs_cons (pg_name (i := 3) sc__law_first_bad.nd rfl (Or.inl rfl)) pgs_nil))) (pss_one (ps_if (pt_not (pt_val (pe_call G__law_pair_fits (hr.mono (by decide)) rfl T.m__law_pair_fits T.F__law_pair_fits.kp T.b__law_pair_fits .nil pass0 (pa_cons (pe_slice sl_list (pv 0) po_none (po_some (pv 2))) (pa_cons (pv 3) pa_nil))))) (pss_one (ps_ret (pv 2))) pss_nil))))
      (pss_cons (ps_stop (ps_for PassesOwn.never rfl (pi_wait (pi_enum rfl T.z_enumerate (pa_cons (pv 1) pa_nil))) (pg_tup rfl (pgs_cons (pg_name (i := 2) sc__law_first_bad.nd rfl (Or.inl rfl)) (pgs_cons (pg_name (i := 4) sc__law_first_bad.nd rfl (Or.inl rfl)) pgs_nil))) (pss_one (ps_if (pt_not (pt_val (pe_call G__law_helper_fits (hr.mono (by decide)) rfl T.m__law_helper_fits T.F__law_helper_fits.kp T.b__law_helper_fits .nil pass0 (pa_cons (pv 0) (pa_cons (pe_slice sl_list (pv 1) po_none (po_some (pv 2))) (pa_cons (pv 4) pa_nil)))))) (pss_one (ps_ret (pe_op op_add (pe_callB call_lenK (by rfl) T.z_len PySem.boot_len (pa_cons (pv 0) pa_nil)) (pv 2)))) pss_nil))))
      (pss_one (ps_ret (pe_un un_neg pe_int))))), ?_⟩
    refine sq_seq (stop_in ?_)
    walk_at "go"
    refine wait ?_
    refine forW (walk_enum (K := K) (xs := L.map fun e => V.ref e.1)) (fun i σ H' => (∃ u2 u3, σ = [some (.ref D), some (.ref A), u2, u3, none]) ∧ Same H H' ∧ ∀ j < i, ∀ p, (L.map (·.2))[j]? = some p → fitsP ((L.map (·.2)).take j) p = true) ?_ ?_ ?_ ?_
    · exact ⟨⟨_, _, rfl⟩, fun _ _ e => e, fun j hj => absurd hj (Nat.not_lt_zero _)⟩
    · exact fun i σ H' _ h => SqL.of (h.2.1 _ _ hls)
    · rintro i v σ H1 H2 hi ⟨⟨u2, u3, rfl⟩, s1, af⟩ ⟨t, y1, y2, rfl, ht, rfl, hy1, hy2⟩
      have hy2 : (L.map fun e => V.ref e.1)[i]? = some y2 := hy2
      rw [List.getElem?_map] at hy2
      obtain ⟨e, he, rfl⟩ := Option.map_eq_some_iff.mp hy2
      have hem := List.mem_of_getElem? he
      have hil := (List.getElem?_eq_some_iff.mp he).1
      cases hy1
      have s2 : Same H1 (upd H1 t (.tup [.int (i : Nat), .ref e.1])) := Same.upd_new ht
      have s12 := s1.trans s2
      have PD2 := PD.same s12
      have ls2 := PD2.ls
      have hei : (L.map (·.2))[i]? = some e.2 := by rw [List.getElem?_map, he] <;> rfl
      have six := pre_six af (by rw [List.length_map]; omega)
      have hgm : e.2 ∈ L.map (·.2) := List.mem_map.mpr ⟨e, hem, rfl⟩
      have l2 : e.2.near.length ≤ 100000 := Nat.le_trans (zP.nl _ hgm).1 (by decide)
      have l3 : e.2.far.length ≤ 100000 := Nat.le_trans (zP.nl _ hgm).2 (by decide)
      walk_at "go"
      intro p3 hp3
      rw [cutV_to]
      have s3 := Same.upd_new (o := .lst ((L.map fun e => V.ref e.1).take i)) hp3
      obtain ⟨H3, e3⟩ : ∃ H3, H3 = upd (upd H1 t (.tup [.int (i : Nat), .ref e.1])) p3 (.lst ((L.map fun e => V.ref e.1).take i)) := ⟨_, rfl⟩
      rw [← e3] at s3 ⊢
      have PT : PairsAt H3 p3 (L.take i) := PairsAt.take (PD2.same s3).at_ (by rw [e3, upd_same, List.map_take])
      have hpe : PrAt H3 (e.1, e.2) := (PD2.same s3).at_ e hem
      have l1 : (L.take i).length ≤ 6 := by rw [List.length_take]; omega
      walk_at "go"
      intro H4 s4
      rw [List.map_take]
      cases hfit : fitsP ((L.map (·.2)).take i) e.2 with
      | false =>
        walk_at "go"
        exact q _ _ (.inr (.inl ⟨i, rfl, ⟨e.2, hei, hfit⟩, af⟩)) ((s12.trans s3).trans s4)
      | true =>
        walk_at "go"
        refine wait ⟨⟨_, _, rfl⟩, (s12.trans s3).trans s4, fun j hj p hp => ?_⟩
        by_cases z : j = i
        · subst z
          rw [hei] at hp
          cases hp
          exact hfit
        · exact af j (by omega) p hp
    · rintro σ H1 ⟨⟨u2, u3, rfl⟩, s1, af⟩
      have okP : okPs (L.map (·.2)) := fun j p hp => af j (by rw [List.length_map]; have := (List.getElem?_eq_some_iff.mp hp).1; rw [List.length_map] at this; exact this) p hp
      have HA1 := HA.same s1
      have hh1 := HA1.ls
      refine sq_seq (stop_in ?_)
      walk_at "go"
      refine wait ?_
      refine forW (walk_enum (K := K) (xs := M.map fun e => V.ref e.1)) (fun i σ H' => (∃ u2 u3 u4, σ = [some (.ref D), some (.ref A), u2, u3, u4]) ∧ Same H H' ∧ ∀ j < i, ∀ p, (M.map (·.2))[j]? = some p → fitsH (L.map (·.2)) ((M.map (·.2)).take j) p = true) ?_ ?_ ?_ ?_
      · exact ⟨⟨_, _, _, rfl⟩, s1, fun j hj => absurd hj (Nat.not_lt_zero _)⟩
      · exact fun i σ H' _ h => SqL.of (h.2.1 _ _ HA.ls)
      · rintro i v σ H2 H3 hi ⟨⟨u2', u3', u4', rfl⟩, s2, ah⟩ ⟨t, y1, y2, rfl, ht, rfl, hy1, hy2⟩
        have hy2 : (M.map fun e => V.ref e.1)[i]? = some y2 := hy2
        rw [List.getElem?_map] at hy2
        obtain ⟨e, he, rfl⟩ := Option.map_eq_some_iff.mp hy2
        have hem := List.mem_of_getElem? he
        have hil := (List.getElem?_eq_some_iff.mp he).1
        cases hy1
        have s3 : Same H2 (upd H2 t (.tup [.int (i : Nat), .ref e.1])) := Same.upd_new ht
        have s23 := s2.trans s3
        have HA3 := HA.same s23
        have ls3 := HA3.ls
        have PD3 := PD.same s23
        have hei : (M.map (·.2))[i]? = some e.2 := by rw [List.getElem?_map, he] <;> rfl
        have fw := pre_few ah (by rw [List.length_map]; omega)
        have hgm : e.2 ∈ M.map (·.2) := List.mem_map.mpr ⟨e, hem, rfl⟩
        have zz := zH.nl _ hgm
        have l2 : e.2.name.length ≤ 100000 := Nat.le_trans zz.1 (by decide)
        have l3 := zz.2.1
        have l4 := zz.2.2
        walk_at "go"
        intro p4 hp4
        rw [cutV_to]
        have s4 := Same.upd_new (o := .lst ((M.map fun e => V.ref e.1).take i)) hp4
        obtain ⟨H4, e4⟩ : ∃ H4, H4 = upd (upd H2 t (.tup [.int (i : Nat), .ref e.1])) p4 (.lst ((M.map fun e => V.ref e.1).take i)) := ⟨_, rfl⟩
        rw [← e4] at s4 ⊢
        have HT : HelpersAt K H4 p4 (M.take i) := ⟨by rw [e4, upd_same, List.map_take], fun d hd => (HA3.same s4).at_ d (List.mem_of_mem_take hd)⟩
        have hpe : HlAt K H4 (e.1, e.2) := (HA3.same s4).at_ e hem
        have PD4 := PD3.same s4
        have l1 : (M.take i).length ≤ 10000 := by rw [List.length_take]; omega
        have fw2 : ∀ s : Int, (((M.take i).map (·.2)).filter fun k => decide (k.side = s)).length ≤ 4 := by rw [List.map_take]; exact fw
        walk_at "go"
        intro H5 s5
        rw [List.map_take]
        have ls5 : H5 D = some (.lst (L.map fun e => V.ref e.1)) := s5 _ _ PD4.ls
        have lml : (L.map fun e => V.ref e.1).length = (L.map (·.2)).length := by rw [List.length_map, List.length_map]
        cases hfit : fitsH (L.map (·.2)) ((M.map (·.2)).take i) e.2 with
        | false =>
          walk_at "go"
          rw [lml]
          exact q _ _ (.inr (.inr ⟨i, rfl, okP, ⟨e.2, hei, hfit⟩, ah⟩)) ((s23.trans s4).trans s5)
        | true =>
          walk_at "go"
          refine wait ⟨⟨_, _, _, rfl⟩, (s23.trans s4).trans s5, fun j hj p hp => ?_⟩
          by_cases z : j = i
          · subst z
            rw [hei] at hp
            cases hp
            exact hfit
          · exact ah j (by omega) p hp
      · rintro σ H2 ⟨⟨u2', u3', u4', rfl⟩, s2, ah⟩
        walk_at "go"
        exact q _ _ (.inl ⟨rfl, okP, fun j h hh => ah j (by rw [List.length_map]; have := (List.getElem?_eq_some_iff.mp hh).1; rw [List.length_map] at this; exact this) h hh⟩) s2
end
end Pf
set_option Elab.async false
set_option linter.all false
set_option maxRecDepth 100000
set_option maxHeartbeats 4000000
namespace Pf
open PySem L2
local macro_rules | `(tactic| walk_at "nz") => `(tactic| (show (_ : Int) ≠ 0; omega))
local macro_rules | `(tactic| walk_at "ne") => `(tactic| first | assumption | (apply Ne.symm; assumption))
local macro_rules | `(tactic| walk_at "hp") => `(tactic| first | assumption | exact upd_same | (refine upd_get ?_ ?_; walk_at "ne"; walk_at "hp"))
local macro_rules | `(tactic| walk_at "sd") => `(tactic| first
  | (with_reducible show (_ : Int) < _; omega)
  | (with_reducible show (_ : Int) ≤ _; omega)
  | (with_reducible show (_ : Nat) < _; omega)
  | (with_reducible show (_ : Nat) ≤ _; omega)
  | rfl
  | assumption
  | exact kV_int _
  | exact kV_str _
  | (show (_ : Int) ≠ 0; omega)
  | exact SqL.of (by walk_at "hp")
  | exact ⟨_, SqL.of (by walk_at "hp")⟩
  | exact ⟨_, SqT.of (by walk_at "hp")⟩
  | exact ⟨_, (by assumption)⟩
  | exact SqT.of (by walk_at "hp")
  | exact Rd.of (by walk_at "hp")
  | exact Or.inl (SqL.of (by walk_at "hp"))
  | exact Or.inr (SqT.of (by walk_at "hp"))
  | exact Or.inr (by assumption)
  | (walk_at "hp")
  | (exact Or.inl ⟨rfl, _, SqL.of (by walk_at "hp")⟩)
  | (exact Or.inl ⟨by omega, by omega⟩)
  | (exact Or.inr ⟨by omega, by omega⟩)
  | (refine ⟨?_, ?_, ?_⟩ <;> omega)
  | omega
  | (exact small_le (by first | omega | (simp only [List.length_cons, List.length_nil]; omega)))
  | (exact small_lt (by first | omega | (simp only [List.length_cons, List.length_nil]; omega)))
  | exact Nat.le_of_ble_eq_true rfl
  | exact ⟨_, rfl⟩
  | decide)
local macro_rules | `(tactic| walk_at "st") => `(tactic| first
  | with_reducible refine sq_seq ?_
  | apply Exists.intro
  | (refine And.intro ?_ ?_; (walk_at "sd")))
local macro_rules | `(tactic| walk_at "go") => `(tactic| repeat (walk_at "st"))
section
variable {P : Program} {w : World} {K : PySem.W.Frag} {mg : Str → Option Value} {base : Heap} {a : Ad}
theorem sum_le0 {k : Nat} : ∀ {ws : List Str}, (∀ w ∈ ws, w.length ≤ k) → (ws.map (·.length)).sum ≤ ws.length * k
  | [], _ => Nat.zero_le _
  | w :: r, h => by
    have h1 := h w List.mem_cons_self
    have h2 := sum_le0 fun v hv => h v (List.mem_cons_of_mem _ hv)
    rw [List.map_cons, List.sum_cons, List.length_cons, Nat.succ_mul]
    omega
theorem sum_ge0 : ∀ {ws : List Str}, (("" : Str) ∉ ws) → ws.length ≤ (ws.map (·.length)).sum
  | [], _ => Nat.zero_le _
  | w :: r, h => by
    have h2 := sum_ge0 (ws := r) fun v => h (List.mem_cons_of_mem _ v)
    have h1 : 1 ≤ w.length := by
      cases e : w.length with
      | zero =>
        exfalso
        have : w = "" := by
          refine tl_inj ?_
          have : (TL.tl w).length = 0 := by rw [← TL.len_tl]; exact e
          rw [List.eq_nil_of_length_eq_zero this]
          decide +kernel
        exact h (by rw [this]; exact List.mem_cons_self)
      | succ n => omega
    rw [List.map_cons, List.sum_cons, List.length_cons]
    omega
theorem pline_noN {p : Pr} (h1 : IsName p.near) (h2 : IsName p.far) : noN (pline p) := by
  refine join_noN fun w hw => ?_
  unfold pwords at hw
  rcases List.mem_append.mp hw with z | z
  · simp only [List.mem_cons, List.not_mem_nil, or_false] at z
    rcases z with rfl | rfl | rfl
    · exact marks_noN _ (by simp)
    · exact h1.noN
    · exact h2.noN
  · split at z
    · rw [List.mem_singleton.mp z]
      exact marks_noN _ (by simp)
    · cases z
theorem hline_noN {h : Hl} (W : WfH h) : noN (hline h) := by
  refine join_noN fun w hw => ?_
  unfold hwords htail at hw
  rcases List.mem_append.mp hw with z | z
  · rcases List.mem_append.mp z with y | y
    · rcases List.mem_cons.mp y with rfl | y
      · exact marks_noN _ (by simp)
      · rcases List.mem_cons.mp y with rfl | y
        · exact W.nm.noN
        · rw [List.mem_singleton.mp y]
          rcases W.sd with e | e
          · rw [e]; exact marks_noN _ (by simp)
          · rw [e]; exact marks_noN _ (by simp)
    · have := W.tk w y
      unfold hows at this
      rcases List.mem_cons.mp this with rfl | q
      · exact marks_noN _ (by simp)
      · rw [List.mem_singleton.mp q]
        exact marks_noN _ (by simp)
  · rcases List.mem_append.mp z with y | y
    · split at y
      · rw [List.mem_singleton.mp y]
        exact marks_noN _ (by simp)
      · cases y
    · split at y
      · rcases List.mem_append.mp y with q | q
        · rw [List.mem_singleton.mp q]
          exact marks_noN _ (by simp)
        · exact (W.th w q).noN
      · cases y
theorem word_len : ("word" : Str).length = 4 ∧ ("helper" : Str).length = 6 ∧ ("" : Str).length = 0 ∧ ("laden" : Str).length = 5 ∧ ("gives" : Str).length = 5 ∧ ("throws" : Str).length = 6 := by decide +kernel
theorem pline_ne (p : Pr) : pline p ≠ "" := fun z => by
  have := (sepB.part (ws := pwords p) (w := "word") (by unfold pwords; simp)).1
  have e : (Txt.join " " (pwords p)) = "" := z
  rw [e, word_len.1, word_len.2.2.1] at this
  omega
theorem hline_ne (h : Hl) : hline h ≠ "" := fun z => by
  have := (sepB.part (ws := hwords h) (w := "helper") (by unfold hwords; simp)).1
  have e : (Txt.join " " (hwords h)) = "" := z
  rw [e, word_len.2.1, word_len.2.2.1] at this
  omega
theorem lines_text {ps : List Pr} {hs : List Hl} (G : Good ps) (GH : GoodH ps hs) : linesOf (textOf ps hs) = ps.map pline ++ hs.map hline := by
  have fr : ∀ w ∈ ps.map pline ++ hs.map hline, noN w := fun w hw => by
    rcases List.mem_append.mp hw with z | z
    · obtain ⟨p, hp, rfl⟩ := List.mem_map.mp z
      exact pline_noN (G.kn p hp) (G.kf p hp)
    · obtain ⟨h, hh, rfl⟩ := List.mem_map.mp z
      exact hline_noN (GH.wf G h hh)
  have ne : ("" : Str) ∉ ps.map pline ++ hs.map hline := fun hw => by
    rcases List.mem_append.mp hw with z | z
    · obtain ⟨p, hp, e⟩ := List.mem_map.mp z
      exact pline_ne p e
    · obtain ⟨h, hh, e⟩ := List.mem_map.mp z
      exact hline_ne h e
  unfold linesOf
  by_cases c : textOf ps hs = ""
  · rw [if_pos c]
    cases e : ps.map pline ++ hs.map hline with
    | nil => rfl
    | cons l r =>
      exfalso
      unfold textOf at c
      rw [e] at c
      have := (sepN.part (ws := l :: r) (w := l) List.mem_cons_self).1
      rw [c, word_len.2.2.1] at this
      have h2 : (TL.tl l).length = 0 := by rw [← TL.len_tl]; omega
      have : l = "" := by
        refine tl_inj ?_
        rw [List.eq_nil_of_length_eq_zero h2]
        decide +kernel
      exact ne (by rw [e, ← this]; exact List.mem_cons_self)
  · rw [if_neg c]
    unfold textOf
    refine sepN.of (fun z => c ?_) fr
    unfold textOf
    rw [z]
    decide +kernel
theorem hows_len : ∀ w ∈ hows, w.length ≤ 5 := by decide +kernel
theorem side_len {s : Int} (h : s = 0 ∨ s = 1) : (Str.ofString (toString s)).length = 1 := by
  rcases h with rfl | rfl
  · decide +kernel
  · decide +kernel
theorem pline_len {p : Pr} (h1 : IsName p.near) (h2 : IsName p.far) : (pline p).length ≤ 28 := by
  have e := sepB.jlen (ws := pwords p) (by unfold pwords; simp)
  have l1 := h1.hi
  have l2 := h2.hi
  have w := word_len
  have : ((pwords p).map (·.length)).sum + (pwords p).length ≤ 29 := by
    unfold pwords
    cases p.laden with
    | true =>
      show (("word" : Str).length + (p.near.length + (p.far.length + (("laden" : Str).length + 0)))) + 4 ≤ 29
      omega
    | false =>
      show (("word" : Str).length + (p.near.length + (p.far.length + 0))) + 3 ≤ 29
      omega
  show (Txt.join " " (pwords p)).length ≤ 28
  omega
theorem hline_len {ps : List Pr} {h : Hl} (W : WfH h) (O : HOk ps h) : (hline h).length ≤ 84 := by
  have e := sepB.jlen (ws := hwords h) (by unfold hwords; simp)
  have l1 := W.nm.hi
  have w := word_len
  have t1 := sum_le0 (ws := h.takes) (k := 5) fun v hv => hows_len v (O.tk v hv)
  have t2 := sum_le0 (ws := h.throws) (k := 8) fun v hv => (W.th v hv).hi
  have o1 := O.tl
  have o2 := O.hl
  have sl := side_len O.sd
  have a1 : ((htail h.gives h.throws).map (·.length)).sum + (htail h.gives h.throws).length ≤ 49 := by
    unfold htail
    rw [List.map_append, List.sum_append, List.length_append]
    have b1 : ((if h.gives = true then (["gives"] : List Str) else []).map (·.length)).sum + (if h.gives = true then (["gives"] : List Str) else []).length ≤ 6 := by
      split
      · show (("gives" : Str).length + 0) + 1 ≤ 6
        omega
      · exact Nat.zero_le _
    have b2 : ((if 0 < h.throws.length then (["throws"] : List Str) ++ h.throws else []).map (·.length)).sum + (if 0 < h.throws.length then (["throws"] : List Str) ++ h.throws else []).length ≤ 43 := by
      split
      · rw [List.map_append, List.sum_append, List.length_append]
        show (("throws" : Str).length + 0) + (h.throws.map (·.length)).sum + (1 + h.throws.length) ≤ 43
        omega
      · exact Nat.zero_le _
    omega
  have a2 : ((hwords h).map (·.length)).sum + (hwords h).length ≤ 85 := by
    unfold hwords
    rw [List.map_append, List.map_append, List.sum_append, List.sum_append, List.length_append, List.length_append]
    have b0 : ((["helper", h.name, Str.ofString (toString h.side)] : List Str).map (·.length)).sum + (["helper", h.name, Str.ofString (toString h.side)] : List Str).length ≤ 18 := by
      show (("helper" : Str).length + (h.name.length + ((Str.ofString (toString h.side)).length + 0))) + 3 ≤ 18
      omega
    omega
  show (Txt.join " " (hwords h)).length ≤ 84
  omega
theorem text_len {ps : List Pr} {hs : List Hl} (G : Good ps) (GH : GoodH ps hs) : (textOf ps hs).length ≤ 860 := by
  by_cases c : ps.map pline ++ hs.map hline = []
  · unfold textOf
    rw [c]
    decide +kernel
  · have e := sepN.jlen c
    have l1 := G.len
    have l2 := GH.len
    have s1 := sum_le0 (ws := ps.map pline) (k := 28) fun w hw => by
      obtain ⟨p, hp, rfl⟩ := List.mem_map.mp hw
      exact pline_len (G.kn p hp) (G.kf p hp)
    have s2 := sum_le0 (ws := hs.map hline) (k := 84) fun w hw => by
      obtain ⟨h, hh, rfl⟩ := List.mem_map.mp hw
      exact hline_len (GH.wf G h hh) (GH.ok h hh)
    rw [List.map_append, List.sum_append, List.length_append] at e
    rw [List.length_map] at s1 s2
    rw [List.length_map, List.length_map] at e
    show (Txt.join "\n" (ps.map pline ++ hs.map hline)).length ≤ 860
    omega
/-! ### what was read is of no great size -/
theorem line_in {page l : Str} (h : l ∈ linesOf page) : l.length ≤ page.length ∧ (PyData.strOk page = true → PyData.strOk l = true) := by
  unfold linesOf at h
  by_cases c : page = ""
  · rw [if_pos c] at h
    cases h
  · rw [if_neg c] at h
    exact sepN.piece h
theorem lines_many (page : Str) : (linesOf page).length ≤ page.length + 1 := by
  unfold linesOf
  split
  · exact Nat.zero_le _
  · have := sepN.len page
    omega
structure Rd (page : Str) (ps : List Pr) (hs : List Hl) : Prop where
  xp : XP 10000 ps
  hl : hs.length ≤ 10000
  hw : ∀ h ∈ hs, HW h ∧ h.takes.length ≤ 4000 ∧ h.throws.length ≤ 4000
theorem rd_sizes {page : Str} {ps : List Pr} {hs : List Hl} (h : rdPre (linesOf page) = some (ps, hs)) (hl : page.length ≤ 7900) (ok : PyData.strOk page = true) : Rd page ps hs := by
  have b := rd_back h
  have m := lines_many page
  have e := congrArg List.length b.e
  rw [List.length_append, List.length_map, List.length_map] at e
  refine ⟨⟨by omega, fun p hp => ?_⟩, by omega, fun k hk => ?_⟩
  · have hi : pline p ∈ linesOf page := by rw [b.e]; exact List.mem_append.mpr (.inl (List.mem_map.mpr ⟨p, hp, rfl⟩))
    have li := line_in hi
    have k1 := sepB.part (ws := pwords p) (w := p.near) (by unfold pwords; simp)
    have k2 := sepB.part (ws := pwords p) (w := p.far) (by unfold pwords; simp)
    have lp : (Txt.join " " (pwords p)).length ≤ page.length := li.1
    exact ⟨⟨by omega, k1.2 (li.2 ok)⟩, ⟨by omega, k2.2 (li.2 ok)⟩⟩
  · have hi : hline k ∈ linesOf page := by rw [b.e]; exact List.mem_append.mpr (.inr (List.mem_map.mpr ⟨k, hk, rfl⟩))
    have li := line_in hi
    have lp : (Txt.join " " (hwords k)).length ≤ page.length := li.1
    have hp : ∀ w ∈ hwords k, SW w := fun w hw => by
      have := sepB.part (ws := hwords k) (w := w) hw
      exact ⟨by omega, this.2 (li.2 ok)⟩
    have g := sum_ge0 (b.h k hk)
    have j := sepB.jlen (ws := hwords k) (by unfold hwords; simp)
    have c : k.takes.length ≤ (hwords k).length ∧ k.throws.length ≤ (hwords k).length := by
      unfold hwords htail
      rw [List.length_append, List.length_append, List.length_append]
      refine ⟨by omega, ?_⟩
      by_cases z : 0 < k.throws.length
      · rw [if_pos z, List.length_append]
        omega
      · omega
    refine ⟨⟨hp _ (by unfold hwords; simp), fun w hw => hp w ?_, fun w hw => hp w ?_⟩, by omega, by omega⟩
    · unfold hwords
      exact List.mem_append.mpr (.inl (List.mem_append.mpr (.inr hw)))
    · unfold hwords htail
      refine List.mem_append.mpr (.inr (List.mem_append.mpr (.inr ?_)))
      rw [if_pos (List.length_pos_of_mem hw)]
      exact List.mem_append.mpr (.inr hw)
theorem Rd.szP {page : Str} {ps : List Pr} {hs : List Hl} (h : Rd page ps hs) : SzP ps := ⟨h.xp.len, fun p hp => ⟨(h.xp.sw p hp).1.len, (h.xp.sw p hp).2.len⟩⟩
theorem Rd.szH {page : Str} {ps : List Pr} {hs : List Hl} (h : Rd page ps hs) : SzH hs := ⟨h.hl, fun p hp => ⟨(h.hw p hp).1.1.len, (h.hw p hp).2.1, (h.hw p hp).2.2⟩⟩
/-! ### what fits is good -/
theorem okPs_good {ps : List Pr} (h : okPs ps) : Good ps := by
  have f : ∀ {i : Nat} {p : Pr}, ps[i]? = some p → (ps.take i).length ≠ 6 ∧ IsName p.near ∧ IsName p.far ∧ p.near ∉ (ps.take i).map (·.near) ∧ p.far ∉ (ps.take i).map (·.far) := fun {i p} hi => by
    have := h i p hi
    unfold fitsP at this
    simp only [Bool.and_eq_true] at this
    exact ⟨of_decide_eq_true this.1.1.1.1, nameB_iff.mp this.1.1.1.2, nameB_iff.mp this.1.1.2, of_decide_eq_true this.1.2, of_decide_eq_true this.2⟩
  refine ⟨?_, nodup_by fun j w hw => ?_, nodup_by fun j w hw => ?_, fun p hp => ?_, fun p hp => ?_⟩
  · by_cases c : ps.length ≤ 6
    · exact c
    · exfalso
      have := (f (List.getElem?_eq_getElem (show 6 < ps.length by omega))).1
      rw [List.length_take] at this
      omega
  · rw [List.getElem?_map] at hw
    obtain ⟨p, hp, rfl⟩ := Option.map_eq_some_iff.mp hw
    rw [← List.map_take]
    exact (f hp).2.2.2.1
  · rw [List.getElem?_map] at hw
    obtain ⟨p, hp, rfl⟩ := Option.map_eq_some_iff.mp hw
    rw [← List.map_take]
    exact (f hp).2.2.2.2
  · obtain ⟨i, hi⟩ := List.getElem?_of_mem hp
    exact (f hi).2.1
  · obtain ⟨i, hi⟩ := List.getElem?_of_mem hp
    exact (f hi).2.2.1
theorem okHs_good {ps : List Pr} {hs : List Hl} (h : okHs ps hs) : GoodH ps hs := by
  have f : ∀ {i : Nat} {k : Hl}, hs[i]? = some k → IsName k.name ∧ HOk ps k := fun {i k} hi => by
    have := h i k hi
    unfold fitsH at this
    simp only [Bool.and_eq_true] at this
    refine ⟨nameB_iff.mp this.1.1.1.1.1.1.1.1, of_decide_eq_true this.1.1.1.1.1.1.2, of_decide_eq_true this.1.1.1.1.2, fun w hw => of_decide_eq_true (List.all_eq_true.mp this.1.1.2 w hw), of_decide_eq_true this.1.1.1.2, of_decide_eq_true this.1.2, fun w hw => of_decide_eq_true (List.all_eq_true.mp this.2 w hw)⟩
  have m : ∀ k ∈ hs, IsName k.name ∧ HOk ps k := fun k hk => by
    obtain ⟨i, hi⟩ := List.getElem?_of_mem hk
    exact f hi
  have few : ∀ s : Int, (hs.filter fun k => decide (k.side = s)).length ≤ 4 := fun s => by
    have := pre_few (ps := ps) (hs := hs) (i := hs.length) (fun j _ k hk => h j k hk) (Nat.le_refl _) s
    rw [List.take_length] at this
    exact this
  refine ⟨fun k hk => (m k hk).2, okHs_nodup h, fun k hk => (m k hk).1, few, ?_⟩
  have f0 := few 0
  have f1 := few 1
  have : ∀ l : List Hl, (∀ k ∈ l, k.side = 0 ∨ k.side = 1) → l.length = (l.filter fun k => decide (k.side = 0)).length + (l.filter fun k => decide (k.side = 1)).length := by
    intro l
    induction l with
    | nil => intro _; rfl
    | cons k r ih =>
      intro hk
      have i := ih fun q hq => hk q (List.mem_cons_of_mem _ hq)
      rcases hk k List.mem_cons_self with e | e
      · rw [List.filter_cons_of_pos (by simp [e]), List.filter_cons_of_neg (by simp [e]), List.length_cons, List.length_cons]
        omega
      · rw [List.filter_cons_of_neg (by simp [e]), List.filter_cons_of_pos (by simp [e]), List.length_cons, List.length_cons]
        omega
  rw [this hs fun k hk => (m k hk).2.sd]
  omega
end
end Pf
set_option Elab.async false
set_option linter.all false
set_option maxRecDepth 100000
set_option maxHeartbeats 4000000
namespace Pf
open PySem L2
local macro_rules | `(tactic| walk_at "nz") => `(tactic| (show (_ : Int) ≠ 0; omega))
local macro_rules | `(tactic| walk_at "ne") => `(tactic| first | assumption | (apply Ne.symm; assumption))
local macro_rules | `(tactic| walk_at "hp") => `(tactic| first | assumption | exact upd_same | (refine upd_get ?_ ?_; walk_at "ne"; walk_at "hp"))
local macro_rules | `(tactic| walk_at "sd") => `(tactic| first
  | (with_reducible show (_ : Int) < _; omega)
  | (with_reducible show (_ : Int) ≤ _; omega)
  | (with_reducible show (_ : Nat) < _; omega)
  | (with_reducible show (_ : Nat) ≤ _; omega)
  | rfl
  | assumption
  | exact kV_int _
  | exact kV_str _
  | (show (_ : Int) ≠ 0; omega)
  | exact SqL.of (by walk_at "hp")
  | exact ⟨_, SqL.of (by walk_at "hp")⟩
  | exact ⟨_, SqT.of (by walk_at "hp")⟩
  | exact ⟨_, (by assumption)⟩
  | exact SqT.of (by walk_at "hp")
  | exact Rd.of (by walk_at "hp")
  | exact Or.inl (SqL.of (by walk_at "hp"))
  | exact Or.inr (SqT.of (by walk_at "hp"))
  | exact Or.inr (by assumption)
  | (walk_at "hp")
  | (exact Or.inl ⟨rfl, _, SqL.of (by walk_at "hp")⟩)
  | (exact Or.inl ⟨by omega, by omega⟩)
  | (exact Or.inr ⟨by omega, by omega⟩)
  | (refine ⟨?_, ?_, ?_⟩ <;> omega)
  | omega
  | (exact small_le (by first | omega | (simp only [List.length_cons, List.length_nil]; omega)))
  | (exact small_lt (by first | omega | (simp only [List.length_cons, List.length_nil]; omega)))
  | exact Nat.le_of_ble_eq_true rfl
  | exact ⟨_, rfl⟩
  | decide)
local macro_rules | `(tactic| walk_at "st") => `(tactic| first
  | with_reducible refine sq_seq ?_
  | apply Exists.intro
  | (refine And.intro ?_ ?_; (walk_at "sd")))
local macro_rules | `(tactic| walk_at "go") => `(tactic| repeat (walk_at "st"))
section
variable {P : Program} {w : World} {K : PySem.W.Frag} {mg : Str → Option Value} {base : Heap} {a : Ad}
theorem name_one {M : List (Addr × Hl)} {d e : Addr × Hl} (nd : (M.map fun e => e.2.name).Nodup) (hd : d ∈ M) (he : e ∈ M) (h : d.2.name = e.2.name) : d = e := by
  have h1 : d ∈ M.filter (fun x => decide (x.2.name = e.2.name)) := List.mem_filter.mpr ⟨hd, decide_eq_true h⟩
  rw [filter_one (f := fun x : Addr × Hl => x.2.name) nd he] at h1
  exact List.mem_singleton.mp h1
theorem GoodH.nd2 {ps : List Pr} {M : List (Addr × Hl)} (GH : GoodH ps (M.map (·.2))) : (M.map fun e => e.2.name).Nodup := by
  have := GH.nd
  rw [List.map_map] at this
  exact this
/-! ### lines -/
theorem sum_le {k : Nat} : ∀ {ws : List Str}, (∀ w ∈ ws, w.length ≤ k) → (ws.map (·.length)).sum ≤ ws.length * k
  | [], _ => Nat.zero_le _
  | w :: r, h => by
    have h1 := h w List.mem_cons_self
    have h2 := sum_le fun v hv => h v (List.mem_cons_of_mem _ hv)
    rw [List.map_cons, List.sum_cons, List.length_cons, Nat.succ_mul]
    omega
theorem joinL_len {s : List Nat} {k : Nat} : ∀ {ps : List (List Nat)}, (∀ p ∈ ps, p.length ≤ k) → (TL.joinL s ps).length ≤ ps.length * (k + s.length)
  | [], _ => Nat.zero_le _
  | [p], h => by
    have := h p List.mem_cons_self
    show p.length ≤ _
    rw [List.length_singleton, Nat.one_mul]
    omega
  | p :: q :: r, h => by
    have h1 := h p List.mem_cons_self
    have h2 := joinL_len (s := s) (ps := q :: r) fun v hv => h v (List.mem_cons_of_mem _ hv)
    show (p ++ (s ++ TL.joinL s (q :: r))).length ≤ _
    rw [List.length_append, List.length_append, List.length_cons, Nat.succ_mul]
    omega
theorem join_len {a : Str} {ys : List Str} {k : Nat} (h : ∀ y ∈ ys, y.length ≤ k) : (Txt.join a ys).length ≤ ys.length * (k + a.length) := by
  rw [TL.join_eq]
  have e := congrArg List.length (TL.tl_join a ys)
  have h2 := joinL_len (s := TL.tl a) (ps := ys.map TL.tl) (k := k) fun p hp => by
    obtain ⟨w, hw, rfl⟩ := List.mem_map.mp hp
    have e1 : (TL.tl w).length = w.length := Array.length_toList
    rw [e1]
    exact h w hw
  have e2 : (TL.tl (Str.join a ys)).length = (Str.join a ys).length := Array.length_toList
  have e3 : (TL.tl a).length = a.length := Array.length_toList
  rw [← e, e2, List.length_map, e3] at h2
  exact h2
/-- a pact that is told in a line -/
structure LnH (h : Hl) : Prop where
  wf : WfH h
  tl : h.takes.length ≤ 3
  hl : h.throws.length ≤ 4
theorem GoodH.ln {ps : List Pr} {hs : List Hl} (G : Good ps) (GH : GoodH ps hs) : ∀ h ∈ hs, LnH h := fun h hh => ⟨GH.wf G h hh, (GH.ok h hh).tl, (GH.ok h hh).hl⟩
theorem LnH.short {h : Hl} (L : LnH h) : ∀ w ∈ hwords h, w.length ≤ 8 := by
  have cs : ∀ w ∈ (["helper", "gives", "throws", "lent", "given", Str.ofString (toString (0 : Int)), Str.ofString (toString (1 : Int))] : List Str), w.length ≤ 8 := by decide +kernel
  intro w hw
  unfold hwords htail at hw
  rcases List.mem_append.mp hw with z | z
  · rcases List.mem_append.mp z with y | y
    · rcases List.mem_cons.mp y with rfl | y
      · exact cs _ (by simp)
      · rcases List.mem_cons.mp y with rfl | y
        · exact L.wf.nm.hi
        · rw [List.mem_singleton.mp y]
          rcases L.wf.sd with e | e
          · rw [e]; exact cs _ (by simp)
          · rw [e]; exact cs _ (by simp)
    · have := L.wf.tk w y
      unfold hows at this
      rcases List.mem_cons.mp this with rfl | q
      · exact cs _ (by simp)
      · rw [List.mem_singleton.mp q]
        exact cs _ (by simp)
  · rcases List.mem_append.mp z with y | y
    · split at y
      · rw [List.mem_singleton.mp y]
        exact cs _ (by simp)
      · cases y
    · split at y
      · rcases List.mem_append.mp y with q | q
        · rw [List.mem_singleton.mp q]
          exact cs _ (by simp)
        · exact (L.wf.th w q).hi
      · cases y
theorem LnH.many {h : Hl} (L : LnH h) : (hwords h).length ≤ 12 := by
  unfold hwords htail
  have h1 := L.tl
  have h2 := L.hl
  rw [List.length_append, List.length_append, List.length_append]
  have e1 : (["helper", h.name, Str.ofString (toString h.side)] : List Str).length = 3 := rfl
  have e2 : (if h.gives = true then (["gives"] : List Str) else []).length ≤ 1 := by split <;> decide
  have e3 : (if 0 < h.throws.length then (["throws"] : List Str) ++ h.throws else []).length ≤ 5 := by
    split
    · rw [List.length_append]
      show 1 + _ ≤ _
      omega
    · exact Nat.zero_le _
  omega
theorem LnH.len {h : Hl} (L : LnH h) : (hline h).length ≤ 200 := by
  have h1 := join_len (a := " ") L.short
  have h2 := L.many
  have e : (" " : Str).length = 1 := by decide +kernel
  rw [e] at h1
  show (Txt.join " " (hwords h)).length ≤ 200
  omega
theorem LnH.sum {h : Hl} (L : LnH h) : ((hwords h).map (·.length)).sum + (hwords h).length * (" " : Str).length ≤ 16777216 := by
  have h1 := sum_le L.short
  have h2 := L.many
  have e : (" " : Str).length = 1 := by decide +kernel
  rw [e]
  omega
def spHelperLine (K : PySem.W.Frag) : Sp := fun vs H Q _ => ∃ (t : Addr) (h : Hl), vs = [.ref t] ∧ HlAt K H (t, h) ∧ LnH h ∧ ∀ H', Same H H' → Q (.str (hline h)) H'
theorem ok_helper_line (T : Txt K mg a) : FnOk P w K mg base CX0 1 a.f_helper_line a.d_helper_line ["pact"] (spHelperLine K) := by
  have cl_Pacts := T.cl_Pacts
  have na_Pacts_kept_pairs := T.na_Pacts_kept_pairs
  have na_Pacts_kept_pacts := T.na_Pacts_kept_pacts
  refine T.F_helper_line.ok sc_helper_line (fun vs H Q E h => ?_) (fun cdv A outer s H vs Q E hr h => ?_)
  · obtain ⟨t, h, rfl, _⟩ := h
    rfl
  · obtain ⟨t, h, rfl, HT, LN, q⟩ := h
    obtain ⟨tk, th, ht, htk, hth⟩ := HT
    have ht : H t = some (.tup [.str h.name, .int h.side, .ref tk, .bl h.gives, .ref th]) := ht
    have htk : SqT K H tk (h.takes.map V.str) := htk
    have hth : SqT K H th (h.throws.map V.str) := hth
    have hb : h.side.natAbs.log2 < 1920 := by rcases LN.wf.sd with e | e <;> rw [e] <;> decide
    have h1 := LN.tl
    have h2 := LN.hl
    refine ⟨_, (pss_cons (ps_asg (pv 0) (pg_tup rfl (pgs_cons (pg_name (i := 1) sc_helper_line.nd rfl (Or.inl rfl)) (pgs_cons (pg_name (i := 2) sc_helper_line.nd rfl (Or.inl rfl)) (pgs_cons (pg_name (i := 3) sc_helper_line.nd rfl (Or.inl rfl)) (pgs_cons (pg_name (i := 4) sc_helper_line.nd rfl (Or.inl rfl)) (pgs_cons (pg_name (i := 5) sc_helper_line.nd rfl (Or.inl rfl)) pgs_nil)))))))
      (pss_cons (ps_set (i := 6) sc_helper_line.nd rfl (Or.inl rfl) (pe_op op_cat (pe_lst (pa_cons pe_str (pa_cons (pv 1) (pa_cons (pe_callTy call_str_int (by rfl) T.z_str (by decide +kernel) (pa_cons (pv 2) pa_nil)) pa_nil)))) (pe_callTy call_list_of (by rfl) T.z_list (by decide +kernel) (pa_cons (pv 3) pa_nil))))
      (pss_mid (ps_if (pt_val (pv 4)) (pss_one (ps_expr (pe_bm PySem.F.plainAttrs_list PySem.F.slot_list_append PySem.F.type_list_append mt_append (pv 6) (pa_cons pe_str pa_nil)))) pss_nil)
      (pss_mid (ps_if (pt_cmpR op_gt (pe_callB call_lenK (by rfl) T.z_len PySem.boot_len (pa_cons (pv 5) pa_nil)) pe_int (nomark _)) (pss_one (ps_set (i := 6) sc_helper_line.nd rfl (Or.inl rfl) (pe_op op_cat (pe_op op_cat (pv 6) (pe_lst (pa_cons pe_str pa_nil))) (pe_callTy call_list_of (by rfl) T.z_list (by decide +kernel) (pa_cons (pv 5) pa_nil))))) pss_nil)
      (pss_one (ps_ret (pe_join pe_str (pv 6)))))))), ?_⟩
    walk_at "go"
    intro p1 hp1
    obtain ⟨H1, e1⟩ : ∃ H1, H1 = upd H p1 (.lst [.str "helper", .str h.name, .str (Str.ofString (toString h.side))]) := ⟨_, rfl⟩
    have s1 : Same H H1 := by rw [e1]; exact Same.upd_new hp1
    have hp11 : H1 p1 = some (.lst [.str "helper", .str h.name, .str (Str.ofString (toString h.side))]) := by rw [e1, upd_same]
    rw [← e1]
    have htk1 := (TK.same s1).sq htk
    walk_at "go"
    intro p2 hp2
    obtain ⟨H2, e2⟩ : ∃ H2, H2 = upd H1 p2 (.lst (h.takes.map V.str)) := ⟨_, rfl⟩
    have s2 : Same H1 H2 := by rw [e2]; exact Same.upd_new hp2
    have hp22 : H2 p2 = some (.lst (h.takes.map V.str)) := by rw [e2, upd_same]
    rw [← e2]
    have hp12 := s2 _ _ hp11
    have hz2 : [V.str "helper", .str h.name, .str (Str.ofString (toString h.side))].length + (h.takes.map V.str).length ≤ sizeLine := small_le (by rw [List.length_map]; show 3 + _ ≤ _; omega)
    walk_at "go"
    intro W hW
    obtain ⟨H3, e3⟩ : ∃ H3, H3 = upd H2 W (.lst ([V.str "helper", .str h.name, .str (Str.ofString (toString h.side))] ++ h.takes.map V.str)) := ⟨_, rfl⟩
    have s3 : Same H2 H3 := by rw [e3]; exact Same.upd_new hW
    have s03 : Same H H3 := (s1.trans s2).trans s3
    have hW3 : H3 W = some (.lst (((["helper", h.name, Str.ofString (toString h.side)] : List Str) ++ h.takes).map V.str)) := by rw [e3, upd_same, List.map_append] <;> rfl
    rw [← e3]
    have hW0 : H W = none := same_none' s1 (same_none' s2 hW)
    refine mid_of (fun σ H4 => σ = [some (.ref t), some (.str h.name), some (.int h.side), some (.ref tk), some (.bl h.gives), some (.ref th), some (.ref W)] ∧ H4 W = some (.lst (((["helper", h.name, Str.ofString (toString h.side)] : List Str) ++ h.takes ++ (if h.gives = true then (["gives"] : List Str) else [])).map V.str)) ∧ Same H H4) ?_ ?_
    · cases hg : h.gives with
      | true =>
        walk_at "go"
        refine ⟨small_lt (by rw [List.length_map, List.length_append]; show 3 + _ ≤ _; omega), wait ⟨rfl, ?_, fun x o e => upd_get (ne_of_none e hW0) (s03 _ _ e)⟩⟩
        rw [upd_same, if_pos rfl, List.map_append, List.map_append] <;> rfl
      | false =>
        walk_at "go"
        refine wait ⟨rfl, ?_, s03⟩
        rw [hW3, if_neg (by decide), List.append_nil]
    · rintro σ H4 ⟨rfl, hW4, s4⟩
      have hth4 := (TK.same s4).sq hth
      have lth : (h.throws.map V.str).length = h.throws.length := List.length_map _
      refine mid_of (fun σ H5 => ∃ W', σ = [some (.ref t), some (.str h.name), some (.int h.side), some (.ref tk), some (.bl h.gives), some (.ref th), some (.ref W')] ∧ H5 W' = some (.lst ((hwords h).map V.str)) ∧ Same H H5) ?_ ?_
      · walk_at "go"
        refine ifD (fun b => ?_) (fun b => ?_)
        · have b1 : 0 < h.throws.length := by omega
          walk_at "go"
          intro p5 hp5
          obtain ⟨pre, epre⟩ : ∃ pre : List Str, pre = (["helper", h.name, Str.ofString (toString h.side)] : List Str) ++ h.takes ++ (if h.gives = true then (["gives"] : List Str) else []) := ⟨_, rfl⟩
          rw [← epre] at hW4
          have lpre : pre.length ≤ 10 := by
            rw [epre, List.length_append, List.length_append]
            have e2 : (if h.gives = true then (["gives"] : List Str) else []).length ≤ 1 := by split <;> decide
            show 3 + _ + _ ≤ _
            omega
          obtain ⟨H5, e5⟩ : ∃ H5, H5 = upd H4 p5 (.lst [.str "throws"]) := ⟨_, rfl⟩
          have s5 : Same H4 H5 := by rw [e5]; exact Same.upd_new hp5
          have hp55 : H5 p5 = some (.lst [.str "throws"]) := by rw [e5, upd_same]
          rw [← e5]
          have hW5 := s5 _ _ hW4
          have hz5 : (pre.map V.str).length + [V.str "throws"].length ≤ sizeLine := small_le (by rw [List.length_map]; show _ + 1 ≤ _; omega)
          walk_at "go"
          intro p6 hp6
          obtain ⟨H6, e6⟩ : ∃ H6, H6 = upd H5 p6 (.lst (pre.map V.str ++ [V.str "throws"])) := ⟨_, rfl⟩
          have s6 : Same H5 H6 := by rw [e6]; exact Same.upd_new hp6
          have hp66 : H6 p6 = some (.lst (pre.map V.str ++ [V.str "throws"])) := by rw [e6, upd_same]
          rw [← e6]
          have hth6 := (TK.same (s5.trans s6)).sq hth4
          walk_at "go"
          intro p7 hp7
          obtain ⟨H7, e7⟩ : ∃ H7, H7 = upd H6 p7 (.lst (h.throws.map V.str)) := ⟨_, rfl⟩
          have s7 : Same H6 H7 := by rw [e7]; exact Same.upd_new hp7
          have hp77 : H7 p7 = some (.lst (h.throws.map V.str)) := by rw [e7, upd_same]
          rw [← e7]
          have hp67 := s7 _ _ hp66
          have hz7 : (pre.map V.str ++ [V.str "throws"]).length + (h.throws.map V.str).length ≤ sizeLine := small_le (by rw [List.length_append, List.length_map, List.length_map]; show _ + 1 + _ ≤ _; omega)
          walk_at "go"
          intro p8 hp8
          refine wait ⟨p8, rfl, ?_, (s4.trans (s5.trans (s6.trans s7))).trans (Same.upd_new hp8)⟩
          rw [upd_same]
          unfold hwords htail
          rw [if_pos b1, ← List.append_assoc, ← epre, List.map_append, List.map_append, List.append_assoc] <;> rfl
        · have b1 : ¬ 0 < h.throws.length := by omega
          refine wait ⟨W, rfl, ?_, s4⟩
          rw [hW4]
          unfold hwords htail
          rw [if_neg b1, List.append_nil]
      · rintro σ H5 ⟨W', rfl, hW5, s5⟩
        have hsum := LN.sum
        walk_at "go"
        exact q _ s5
def spPairLine : Sp := fun vs H Q _ => ∃ (t : Addr) (p : Pr), vs = [.ref t] ∧ PrAt H (t, p) ∧ p.near.length ≤ 10000 ∧ p.far.length ≤ 10000 ∧ Q (.str (pline p)) H
theorem pline_t {n f : Str} : (Str.empty ++ ("word " : Str) ++ n ++ (" " : Str) ++ f) ++ (" laden" : Str) = pline ⟨n, f, true⟩ := by
  refine tl_inj ?_
  show TL.tl _ = TL.tl (Txt.join " " _)
  rw [sepB.jl, TL.tl_append, TL.tl_append, TL.tl_append, TL.tl_append, TL.tl_append]
  show TL.tl Str.empty ++ TL.tl ("word " : Str) ++ TL.tl n ++ TL.tl (" " : Str) ++ TL.tl f ++ TL.tl (" laden" : Str) = TL.tl ("word" : Str) ++ ([32] ++ (TL.tl n ++ ([32] ++ (TL.tl f ++ ([32] ++ TL.tl ("laden" : Str))))))
  have a1 : TL.tl ("word " : Str) = TL.tl ("word" : Str) ++ [32] := by decide +kernel
  have a2 : TL.tl (" laden" : Str) = [32] ++ TL.tl ("laden" : Str) := by decide +kernel
  have a3 : TL.tl (" " : Str) = [32] := by decide +kernel
  have a4 : TL.tl Str.empty = [] := rfl
  rw [a1, a2, a3, a4]
  simp only [List.nil_append, List.append_assoc]
theorem pline_f {n f : Str} : (Str.empty ++ ("word " : Str) ++ n ++ (" " : Str) ++ f) ++ ("" : Str) = pline ⟨n, f, false⟩ := by
  refine tl_inj ?_
  show TL.tl _ = TL.tl (Txt.join " " _)
  rw [sepB.jl, TL.tl_append, TL.tl_append, TL.tl_append, TL.tl_append, TL.tl_append]
  show TL.tl Str.empty ++ TL.tl ("word " : Str) ++ TL.tl n ++ TL.tl (" " : Str) ++ TL.tl f ++ TL.tl ("" : Str) = TL.tl ("word" : Str) ++ ([32] ++ (TL.tl n ++ ([32] ++ TL.tl f)))
  have a1 : TL.tl ("word " : Str) = TL.tl ("word" : Str) ++ [32] := by decide +kernel
  have a2 : TL.tl ("" : Str) = [] := by decide +kernel
  have a3 : TL.tl (" " : Str) = [32] := by decide +kernel
  have a4 : TL.tl Str.empty = [] := rfl
  rw [a1, a2, a3, a4]
  simp only [List.nil_append, List.append_assoc, List.append_nil]
theorem ok_pair_line (T : Txt K mg a) : FnOk P w K mg base CX0 1 a.f_pair_line a.d_pair_line ["pair"] spPairLine := by
  refine T.F_pair_line.ok sc_pair_line (fun vs H Q E h => ?_) (fun cdv A outer s H vs Q E hr h => ?_)
  · obtain ⟨t, p, rfl, _⟩ := h
    rfl
  · obtain ⟨t, p, rfl, HP, l1, l2, q⟩ := h
    have ht : H t = some (.tup [.str p.near, .str p.far, .bl p.laden]) := HP
    have e0 : Str.empty.length = 0 := rfl
    have e1 : ("word " : Str).length = 5 := by decide +kernel
    have e2 : (" " : Str).length = 1 := by decide +kernel
    have e3 : (" laden" : Str).length = 6 := by decide +kernel
    have e4 : ("" : Str).length = 0 := by decide +kernel
    refine ⟨_, (pss_cons (ps_asg (pv 0) (pg_tup rfl (pgs_cons (pg_name (i := 1) sc_pair_line.nd rfl (Or.inl rfl)) (pgs_cons (pg_name (i := 2) sc_pair_line.nd rfl (Or.inl rfl)) (pgs_cons (pg_name (i := 3) sc_pair_line.nd rfl (Or.inl rfl)) pgs_nil)))))
      (pss_one (ps_ret (pe_op op_add_str (pe_joined (.cons pe_str (.cons (pe_fmt (pv 1)) (.cons pe_str (.cons (pe_fmt (pv 2)) .nil))))) (pe_ifExp (pt_val (pv 3)) pe_str pe_str))))), ?_⟩
    walk_at "go"
    refine .inl ⟨_, rfl, small_le (by omega), _, rfl, small_le (by simp only [Str.length_append, e0, e1]; omega), ?_⟩
    refine ⟨_, rfl, small_le (by simp only [Str.length_append, e0, e1, e2]; omega), ?_⟩
    walk_at "go"
    refine .inl ⟨_, rfl, small_le (by omega), _, rfl, small_le (by simp only [Str.length_append, e0, e1, e2]; omega), ?_⟩
    obtain ⟨A0, eA⟩ : ∃ A0 : Str, A0 = Str.empty ++ ("word " : Str) ++ p.near ++ (" " : Str) ++ p.far := ⟨_, rfl⟩
    have lA : A0.length ≤ 30000 := by rw [eA]; simp only [Str.length_append, e0, e1, e2]; omega
    rw [← eA]
    have lB : A0.length + (" laden" : Str).length ≤ sizeLine := small_le (by omega)
    have lC : A0.length + ("" : Str).length ≤ sizeLine := small_le (by omega)
    cases hl : p.laden with
    | true =>
      have ep : pline p = A0 ++ (" laden" : Str) := by
        rw [eA, pline_t]
        obtain ⟨n, f, l⟩ := p
        have hl : l = true := hl
        rw [hl]
      refine ⟨_, rfl, _, rfl, ifT rfl ?_⟩
      walk_at "go"
      rw [← ep]
      exact q
    | false =>
      have ep : pline p = A0 ++ ("" : Str) := by
        rw [eA, pline_f]
        obtain ⟨n, f, l⟩ := p
        have hl : l = false := hl
        rw [hl]
      refine ⟨_, rfl, _, rfl, ifF rfl ?_⟩
      walk_at "go"
      rw [← ep]
      exact q
def spLines (K : PySem.W.Frag) (C : Addr) : Sp := fun vs H Q _ => ∃ (x kp kd : Addr) (L : List (Addr × Pr)) (M : List (Addr × Hl)), vs = [.ref x] ∧ PactsH K C H x kp kd L M ∧ M.length ≤ 10000 ∧ (∀ e ∈ M, LnH e.2) ∧
  ∀ D H', H D = none → H' D = some (.lst ((M.map fun e => hline e.2).map V.str)) → Same H H' → Q (.ref D) H'
theorem ok_Pacts_lines_told (T : Txt K mg a) : FnOk P w K mg base CX0 2 a.f_Pacts_lines_told a.d_Pacts_lines_told ["self"] (spLines K a.c_Pacts) := by
  have G_helper_line := ok_helper_line (P := P) (w := w) (base := base) T
  have cl_Pacts := T.cl_Pacts
  have na_Pacts_kept_pairs := T.na_Pacts_kept_pairs
  have na_Pacts_kept_pacts := T.na_Pacts_kept_pacts
  refine T.F_Pacts_lines_told.ok sc_Pacts_lines_told (fun vs H Q E h => ?_) (fun cdv A outer s H vs Q E hr h => ?_)
  · obtain ⟨x, kp, kd, L, M, rfl, _⟩ := h
    rfl
  · obtain ⟨x, kp, kd, L, M, rfl, PA, hl, LN, q⟩ := h
    obtain ⟨dx, ho⟩ := PA.pa.ob
    have hd := PA.pa.pc
    refine ⟨_, (pss_one (ps_ret (pe_lock (pe_lc (own := [("pact", 1)]) (g := gName 1) (tt := tYes) rfl sc_Pacts_lines_told.nd (pi_values (pe_fld (pv 0) rfl)) (blkOk_by (own := [("pact", 1)]) (N := n_Pacts_lines_told) (sc := defScope s_Pacts_lines_told) (by decide +kernel)) (fun _ _ _ _ _ => (pg_name (i := 1) sc_Pacts_lines_told.nd rfl (Or.inl rfl))) (fun _ _ _ _ _ => pts_nil) (fun _ _ _ _ _ => (pe_call G_helper_line (hr.mono (by decide)) rfl T.m_helper_line T.F_helper_line.kp T.b_helper_line .nil pass0 (pa_cons (pv 1) pa_nil))))))), ?_⟩
    refine ⟨kd, _, hd, trivial, fun od => ?_⟩
    have nxd : x ≠ kd := ne_of ho hd (by intro z; cases z)
    have ho1 : upd H kd (.frz od (.dK (hk M))) x = _ := upd_get nxd ho
    have hd1 : upd H kd (.frz od (.dK (hk M))) kd = some (.frz od (.dK (hk M))) := upd_same
    walk_at "go"
    intro D hD
    have nD : D ≠ kd := fun z => by rw [z, upd_same] at hD; cases hD
    have hD0 : H D = none := by rw [upd_ne nD] at hD; exact hD
    have hlm := hk_len M
    refine lcW (walk_values (d := kd) (o := od) (kvs := hk M)) (fun i H' => H' D = some (.lst (((M.take i).map fun e => hline e.2).map V.str)) ∧ Same (upd H kd (.frz od (.dK (hk M)))) H') ?_ ?_ ?_ ?_
    · exact ⟨upd_same, Same.upd_new hD⟩
    · exact fun i H' _ h => h.2 _ _ upd_same
    · rintro i v H0 H1 hi ⟨g1, g2⟩ ⟨rfl, k, hke⟩
      have hi2 : i < M.length := by omega
      obtain ⟨e, he⟩ : ∃ e, M[i]? = some e := ⟨_, List.getElem?_eq_getElem hi2⟩
      have hke : (M.map fun e => ((Sum.inr e.2.name : Key), V.ref e.1))[i]? = some (k, v) := hke
      rw [List.getElem?_map, he] at hke
      cases hke
      have hat : HlAt K H1 (e.1, e.2) := ((PA.at_ e (List.mem_of_getElem? he)).tk (TK.dK hd)).tk (TK.same g2)
      have ln := LN e (List.mem_of_getElem? he)
      refine ⟨rfl, ?_⟩
      walk_at "go"
      intro H2 s2
      refine ⟨_, s2 _ _ g1, small_lt (by rw [List.length_map, List.length_map, List.length_take]; omega), wait ⟨?_, fun x o e => upd_get (ne_of_none e hD) (s2 _ _ (g2 x o e))⟩⟩
      rw [upd_same, List.take_add_one, he, List.map_append, List.map_append] <;> rfl
    · rintro H1 ⟨g1, g2⟩
      rw [hlm, List.take_length] at g1
      refine ⟨g2 _ _ upd_same, ?_⟩
      refine q D _ hD0 (upd_get nD g1) fun y o e => ?_
      by_cases z : y = kd
      · rw [z, hd] at e
        rw [z, upd_same]
        exact e
      · exact upd_get z (g2 _ _ (upd_get z e))
def spStrP (K : PySem.W.Frag) (C : Addr) : Sp := fun vs H Q _ => ∃ (x kp kd : Addr) (L : List (Addr × Pr)) (M : List (Addr × Hl)), vs = [.ref x] ∧ PactsH K C H x kp kd L M ∧ Good (L.map (·.2)) ∧ GoodH (L.map (·.2)) (M.map (·.2)) ∧
  ∀ H', Same H H' → Q (.str (textOf (L.map (·.2)) (M.map (·.2)))) H'
theorem ok_Pacts___str__ (T : Txt K mg a) : FnOk P w K mg base CX0 3 a.f_Pacts___str__ a.d_Pacts___str__ ["self"] (spStrP K a.c_Pacts) := by
  have G_Pacts_lines_told := ok_Pacts_lines_told (P := P) (w := w) (base := base) T
  have G_pair_line := ok_pair_line (P := P) (w := w) (base := base) T
  have cl_Pacts := T.cl_Pacts
  have na_Pacts_kept_pairs := T.na_Pacts_kept_pairs
  have na_Pacts_kept_pacts := T.na_Pacts_kept_pacts
  refine T.F_Pacts___str__.ok sc_Pacts___str__ (fun vs H Q E h => ?_) (fun cdv A outer s H vs Q E hr h => ?_)
  · obtain ⟨x, kp, kd, L, M, rfl, _⟩ := h
    rfl
  · obtain ⟨x, kp, kd, L, M, rfl, PA, G, GH, q⟩ := h
    obtain ⟨dx, ho⟩ := PA.pa.ob
    have hls := PA.pa.pr.ls
    have gl := G.len
    have ghl := GH.len
    rw [List.length_map] at gl ghl
    refine ⟨_, (pss_one (ps_ret (pe_join pe_str (pe_op op_cat (pe_lc (own := [("pair", 1)]) (g := gName 1) (tt := tYes) rfl sc_Pacts___str__.nd (pi_list (by exact (pe_fld (pv 0) rfl))) (blkOk_by (own := [("pair", 1)]) (N := n_Pacts___str__) (sc := defScope s_Pacts___str__) (by decide +kernel)) (fun _ _ _ _ _ => (pg_name (i := 1) sc_Pacts___str__.nd rfl (Or.inl rfl))) (fun _ _ _ _ _ => pts_nil) (fun _ _ _ _ _ => (pe_call G_pair_line (hr.mono (by decide)) rfl T.m_pair_line T.F_pair_line.kp T.b_pair_line .nil pass0 (pa_cons (pv 1) pa_nil)))) (pe_meth0 (pv 0) T.cl_Pacts T.mt_Pacts_lines_told G_Pacts_lines_told (hr.mono (by decide)) T.b_Pacts_lines_told .nil pass0))))), ?_⟩
    walk_at "go"
    intro D hD
    refine lcL (K := K) (a := kp) (xs := L.map fun e => V.ref e.1) (fun i H' => H' D = some (.lst (((L.take i).map fun e => pline e.2).map V.str)) ∧ Same H H') ?_ ?_ ?_ ?_
    · exact ⟨upd_same, Same.upd_new hD⟩
    · rintro i H' _ ⟨_, g2⟩
      exact SqL.of (g2 _ _ hls)
    · rintro i v H' hi ⟨g1, g2⟩
      rw [List.getElem?_map] at hi
      obtain ⟨e, he, rfl⟩ := Option.map_eq_some_iff.mp hi
      have hem := List.mem_of_getElem? he
      have hlt := (List.getElem?_eq_some_iff.mp he).1
      have hp : PrAt H' (e.1, e.2) := g2 _ _ (PA.pa.pr.at_ e hem)
      have hgm : e.2 ∈ L.map (·.2) := List.mem_map.mpr ⟨e, hem, rfl⟩
      have k1 : e.2.near.length ≤ 10000 := Nat.le_trans (G.kn _ hgm).hi (by decide)
      have k2 : e.2.far.length ≤ 10000 := Nat.le_trans (G.kf _ hgm).hi (by decide)
      refine ⟨rfl, ?_⟩
      walk_at "go"
      refine ⟨small_lt (by rw [List.length_map, List.length_map, List.length_take]; omega), wait ⟨?_, fun x o e => upd_get (ne_of_none e hD) (g2 x o e)⟩⟩
      rw [upd_same, List.take_add_one, he, List.map_append, List.map_append] <;> rfl
    · rintro H1 ⟨g1, g2⟩
      rw [List.length_map, List.take_length] at g1
      obtain ⟨ys, eys⟩ : ∃ ys : List Str, ys = L.map fun e => pline e.2 := ⟨_, rfl⟩
      rw [← eys] at g1
      have yl : ys.length = L.length := by rw [eys, List.length_map]
      have yk : ∀ y ∈ ys, y.length ≤ 1000 := fun y hy => by
        rw [eys] at hy
        obtain ⟨e, he, rfl⟩ := List.mem_map.mp hy
        have hgm : e.2 ∈ L.map (·.2) := List.mem_map.mpr ⟨e, he, rfl⟩
        exact Nat.le_trans (pline_len (G.kn _ hgm) (G.kf _ hgm)) (by decide)
      have PA1 := PA.same g2
      obtain ⟨dx1, ho1⟩ := PA1.pa.ob
      have ln : ∀ e ∈ M, LnH e.2 := fun e he => GH.ln G e.2 (List.mem_map.mpr ⟨e, he, rfl⟩)
      have lM : M.length ≤ 10000 := by omega
      walk_at "go"
      intro D2 H2 hD2 h2 s2
      have g12 := s2 _ _ g1
      have hz2 : (ys.map V.str).length + ((M.map fun e => hline e.2).map V.str).length ≤ sizeLine := small_le (by rw [List.length_map, List.length_map, List.length_map]; omega)
      walk_at "go"
      intro D3 hD3
      have h3 : upd H2 D3 (.lst (ys.map V.str ++ (M.map fun e => hline e.2).map V.str)) D3 = some (.lst ((ys ++ M.map fun e => hline e.2).map V.str)) := by rw [upd_same, List.map_append]
      have hsum : ((ys ++ M.map fun e => hline e.2).map (·.length)).sum + (ys ++ M.map fun e => hline e.2).length * ("\n" : Str).length ≤ 16777216 := by
        have h1 := sum_le (k := 1000) (ws := ys ++ M.map fun e => hline e.2) fun w hw => by
          rcases List.mem_append.mp hw with z | z
          · exact yk w z
          · obtain ⟨e, he, rfl⟩ := List.mem_map.mp z
            exact Nat.le_trans (ln e he).len (by decide)
        have e1 : ("\n" : Str).length = 1 := by decide +kernel
        rw [e1]
        rw [List.length_append, List.length_map] at h1 ⊢
        omega
      have et : textOf (L.map (·.2)) (M.map (·.2)) = Txt.join "\n" (ys ++ M.map fun e => hline e.2) := by
        unfold textOf
        rw [eys, List.map_map, List.map_map] <;> rfl
      walk_at "go"
      rw [← et]
      exact q _ ((g2.trans s2).trans (Same.upd_new hD3))
/-! ### own == -/
theorem eqv_prs : ∀ {xs ys : List Pr}, PyData.eqvAll (xs.map prD) (ys.map prD) = true → xs = ys
  | [], [], _ => rfl
  | [], _ :: _, h => by cases h
  | _ :: _, [], h => by cases h
  | x :: xs, y :: ys, h => by
    have h : ((x.near == y.near && (x.far == y.far && (x.laden == y.laden && true))) && PyData.eqvAll (xs.map prD) (ys.map prD)) = true := h
    simp only [Bool.and_eq_true] at h
    obtain ⟨⟨h1, h2, h3, _⟩, h4⟩ := h
    obtain ⟨n1, f1, l1⟩ := x
    obtain ⟨n2, f2, l2⟩ := y
    have a1 : n1 = n2 := eq_of_beq h1
    have a2 : f1 = f2 := eq_of_beq h2
    have a3 : l1 = l2 := eq_of_beq h3
    rw [a1, a2, a3, eqv_prs h4]
theorem eqv_strs : ∀ {xs ys : List Str}, PyData.eqvAll (xs.map PyData.str) (ys.map PyData.str) = true → xs = ys
  | [], [], _ => rfl
  | [], _ :: _, h => by cases h
  | _ :: _, [], h => by cases h
  | x :: xs, y :: ys, h => by
    have h : (x == y && PyData.eqvAll (xs.map PyData.str) (ys.map PyData.str)) = true := h
    rw [Bool.and_eq_true] at h
    rw [eq_of_beq h.1, eqv_strs h.2]
theorem shaped_strs {ws : List Str} (h : ∀ w ∈ ws, PyData.strOk w = true) : SeqAt.shaped (.list (ws.map PyData.str)) = true := by
  unfold SeqAt.shaped
  rw [Bool.and_eq_true]
  refine ⟨?_, decide_eq_true ?_⟩
  · have f : ∀ {ws : List Str}, (∀ w ∈ ws, PyData.strOk w = true) → PyData.canLayAll0 (ws.map PyData.str) = true := by
      intro ws
      induction ws with
      | nil => intro _; rfl
      | cons w r ih =>
        intro h
        show (PyData.strOk w && PyData.canLayAll0 (r.map PyData.str)) = true
        rw [h w List.mem_cons_self, ih fun q hq => h q (List.mem_cons_of_mem _ hq)] <;> rfl
    exact f h
  · show PyData.depthAll (ws.map PyData.str) + 1 ≤ 64
    rw [depth_strs] <;> decide
theorem joinL_mem {s : List Nat} {c : Nat} : ∀ {ps : List (List Nat)}, c ∈ TL.joinL s ps → c ∈ s ∨ ∃ p ∈ ps, c ∈ p
  | [], h => by cases h
  | [p], h => .inr ⟨p, List.mem_cons_self, h⟩
  | p :: q :: r, h => by
    have h : c ∈ p ++ (s ++ TL.joinL s (q :: r)) := h
    rcases List.mem_append.mp h with z | z
    · exact .inr ⟨p, List.mem_cons_self, z⟩
    · rcases List.mem_append.mp z with y | y
      · exact .inl y
      · rcases joinL_mem y with v | ⟨u, hu, hc⟩
        · exact .inl v
        · exact .inr ⟨u, List.mem_cons_of_mem _ hu, hc⟩
theorem join_ok {b : Str} {ys : List Str} (h0 : PyData.strOk b = true) (h : ∀ y ∈ ys, PyData.strOk y = true) : PyData.strOk (Txt.join b ys) = true := by
  have f : ∀ {v : Str}, PyData.strOk v = true → ∀ c ∈ TL.tl v, PyData.strOk ⟨#[c]⟩ = true := fun {v} hv c hc => by
    unfold PyData.strOk at hv ⊢
    rw [← Array.all_toList, List.all_eq_true] at hv
    rw [← Array.all_toList, List.all_eq_true]
    intro d hd
    have : d = c := List.mem_singleton.mp hd
    rw [this]
    exact hv c hc
  have g : ∀ {v : Str}, (∀ c ∈ TL.tl v, PyData.strOk ⟨#[c]⟩ = true) → PyData.strOk v = true := fun {v} hv => by
    unfold PyData.strOk
    rw [← Array.all_toList, List.all_eq_true]
    intro c hc
    have := hv c hc
    unfold PyData.strOk at this
    rw [← Array.all_toList, List.all_eq_true] at this
    exact this c List.mem_cons_self
  refine g fun c hc => ?_
  rw [TL.join_eq, TL.tl_join] at hc
  rcases joinL_mem hc with z | ⟨p, hp, z⟩
  · exact f h0 c z
  · obtain ⟨y, hy, rfl⟩ := List.mem_map.mp hp
    exact f (h y hy) c z
theorem WfH.ok {h : Hl} (W : WfH h) : PyData.strOk (hline h) = true := by
  have cs : ∀ w ∈ (["helper", "gives", "throws", "lent", "given", Str.ofString (toString (0 : Int)), Str.ofString (toString (1 : Int))] : List Str), PyData.strOk w = true := by decide +kernel
  refine join_ok (by decide +kernel) fun w hw => ?_
  unfold hwords htail at hw
  rcases List.mem_append.mp hw with z | z
  · rcases List.mem_append.mp z with y | y
    · rcases List.mem_cons.mp y with rfl | y
      · exact cs _ (by simp)
      · rcases List.mem_cons.mp y with rfl | y
        · exact W.nm.ok
        · rw [List.mem_singleton.mp y]
          rcases W.sd with e | e
          · rw [e]; exact cs _ (by simp)
          · rw [e]; exact cs _ (by simp)
    · have := W.tk w y
      unfold hows at this
      rcases List.mem_cons.mp this with rfl | q
      · exact cs _ (by simp)
      · rw [List.mem_singleton.mp q]
        exact cs _ (by simp)
  · rcases List.mem_append.mp z with y | y
    · split at y
      · rw [List.mem_singleton.mp y]
        exact cs _ (by simp)
      · cases y
    · split at y
      · rcases List.mem_append.mp y with q | q
        · rw [List.mem_singleton.mp q]
          exact cs _ (by simp)
        · exact (W.th w q).ok
      · cases y
/-- what an own == asks: another one of the class, or a thing that is none -/
def spEqP (K : PySem.W.Frag) (C : Addr) : Sp := fun vs H Q _ =>
  (∃ (x kp kd y kp' kd' : Addr) (L L' : List (Addr × Pr)) (M M' : List (Addr × Hl)), vs = [.ref x, .ref y] ∧ PactsH K C H x kp kd L M ∧ PactsH K C H y kp' kd' L' M' ∧ Good (L.map (·.2)) ∧ GoodH (L.map (·.2)) (M.map (·.2)) ∧ Good (L'.map (·.2)) ∧ GoodH (L'.map (·.2)) (M'.map (·.2)) ∧
    ∀ r H', Same H H' → (r = true ↔ L.map (·.2) = L'.map (·.2) ∧ M.map (·.2) = M'.map (·.2)) → Q (.bl r) H') ∨
  (∃ (x : Addr) (z : V), vs = [.ref x, z] ∧ Odd K H z ∧ Q (.bl false) H)
theorem ok_Pacts___eq__ (T : Txt K mg a) : FnOk P w K mg base CX0 3 a.f_Pacts___eq__ a.d_Pacts___eq__ ["self", "other"] (spEqP K a.c_Pacts) := by
  have G_Pacts_lines_told := ok_Pacts_lines_told (P := P) (w := w) (base := base) T
  have cl_Pacts := T.cl_Pacts
  have na_Pacts_kept_pairs := T.na_Pacts_kept_pairs
  have na_Pacts_kept_pacts := T.na_Pacts_kept_pacts
  refine T.F_Pacts___eq__.ok sc_Pacts___eq__ (fun vs H Q E h => ?_) (fun cdv A outer s H vs Q E hr h => ?_)
  · rcases h with ⟨x, kp, kd, y, kp', kd', L, L', M, M', rfl, _⟩ | ⟨x, z, rfl, _⟩ <;> rfl
  · have oc := T.oc_Pacts
    rcases h with ⟨x, kp, kd, y, kp', kd', L, L', M, M', rfl, PX, PY, G, GH, G', GH', q⟩ | ⟨x, z, rfl, hz, q⟩
    · obtain ⟨dx, hx⟩ := PX.pa.ob
      obtain ⟨dy, hy⟩ := PY.pa.ob
      have ty : TyX K H (.ref y) (.ref a.c_Pacts) := .base (.ins hy T.cl_Pacts oc.ha oc.hn oc.ht oc.hm)
      have ki : PySem.W.kitOne K (.ref a.c_Pacts) (.ref a.c_Pacts) = some true := by
        unfold PySem.W.kitOne
        rw [if_pos (by simp)]
      refine ⟨_, (pss_cons (ps_if (pt_not (pt_val (pe_callB call_isi (by rfl) T.z_isinstance (by decide +kernel) (pa_cons (pv 1) (pa_cons (pe_glob (v := .ref a.c_Pacts) rfl T.m_Pacts rfl) pa_nil))))) (pss_one (ps_ret pe_bl)) pss_nil)
      (pss_one (ps_ret (pe_and (pe_cmpR (op_eqD (hr.units)) (pe_fld (pv 0) rfl) (pe_fld (pv 1) rfl) (nomark _)) (pe_one (pe_cmpR (op_eqD (hr.units)) (pe_meth0 (pv 0) T.cl_Pacts T.mt_Pacts_lines_told G_Pacts_lines_told (hr.mono (by decide)) T.b_Pacts_lines_told .nil pass0) (pe_meth0 (pv 1) T.cl_Pacts T.mt_Pacts_lines_told G_Pacts_lines_told (hr.mono (by decide)) T.b_Pacts_lines_told .nil pass0) (nomark _))))))), ?_⟩
      have d1 := PX.pa.pr.dp (K := K)
      have d2 := PY.pa.pr.dp (K := K)
      have sh1 := shaped_prs fun p hp => G.xp.sw p hp
      have sh2 := shaped_prs fun p hp => G'.xp.sw p hp
      walk_at "go"
      refine ⟨.own _, ty, ki, ?_⟩
      walk_at "go"
      by_cases hp : L.map (·.2) = L'.map (·.2)
      · rw [hp, eqv_self sh2]
        refine ifT rfl ?_
        have lM : M.length ≤ 10000 := by
          have := GH.len
          rw [List.length_map] at this
          omega
        have lM' : M'.length ≤ 10000 := by
          have := GH'.len
          rw [List.length_map] at this
          omega
        have ln : ∀ e ∈ M, LnH e.2 := fun e he => GH.ln G e.2 (List.mem_map.mpr ⟨e, he, rfl⟩)
        have ln' : ∀ e ∈ M', LnH e.2 := fun e he => GH'.ln G' e.2 (List.mem_map.mpr ⟨e, he, rfl⟩)
        have PX0 := PX
        walk_at "go"
        intro D1 H1 hD1 h1 s1
        have PY1 := PY.same s1
        obtain ⟨dy1, hy1⟩ := PY1.pa.ob
        walk_at "go"
        intro D2 H2 hD2 h2 s2
        have dl1 : Dp K H2 (.ref D1) (.list ((M.map fun e => hline e.2).map PyData.str)) := .lst (SqL.of (s2 _ _ h1)) (dp_strs _)
        have dl2 : Dp K H2 (.ref D2) (.list ((M'.map fun e => hline e.2).map PyData.str)) := .lst (SqL.of h2) (dp_strs _)
        have sl1 : SeqAt.shaped (.list ((M.map fun e => hline e.2).map PyData.str)) = true := shaped_strs fun w hw => by
          obtain ⟨e, he, rfl⟩ := List.mem_map.mp hw
          exact (ln e he).wf.ok
        have sl2 : SeqAt.shaped (.list ((M'.map fun e => hline e.2).map PyData.str)) = true := shaped_strs fun w hw => by
          obtain ⟨e, he, rfl⟩ := List.mem_map.mp hw
          exact (ln' e he).wf.ok
        refine ⟨_, _, dl1, dl2, sl1, sl2, q _ _ (s1.trans s2) ⟨fun e => ⟨hp, ?_⟩, fun e => ?_⟩⟩
        · have e1 := eqv_strs e
          have f : ∀ Z : List (Addr × Hl), Z.map (fun e => hline e.2) = (Z.map (·.2)).map hline := fun Z => by rw [List.map_map] <;> rfl
          rw [f, f] at e1
          exact lines_inj (GH.wf G) (GH'.wf G') e1
        · have f : ∀ Z : List (Addr × Hl), Z.map (fun e => hline e.2) = (Z.map (·.2)).map hline := fun Z => by rw [List.map_map] <;> rfl
          have e1 : M.map (fun e => hline e.2) = M'.map fun e => hline e.2 := by rw [f, f, e.2]
          rw [e1]
          exact eqv_self sl2
      · have e1 : PyData.eqv (.list ((L.map (·.2)).map prD)) (.list ((L'.map (·.2)).map prD)) = false := by
          cases z : PyData.eqv (.list ((L.map (·.2)).map prD)) (.list ((L'.map (·.2)).map prD)) with
          | false => rfl
          | true => exact absurd (eqv_prs z) hp
        refine ifF e1 ?_
        exact q _ _ (fun _ _ e => e) ⟨(fun e => nomatch e), fun e => absurd e.1 hp⟩
    · have go : ∀ t, TyX K H z t → PySem.W.kitOne K t (.ref a.c_Pacts) = some false → ∃ t, PSs (cxOf CX0 P w K mg base n_Pacts___eq__ (Str.ofString "Pacts.__eq__") (defScope s_Pacts___eq__) a.f_Pacts___eq__ cdv A outer s H E).nox (defBody s_Pacts___eq__) t ∧ t { nx := fun _ H' => Q .non H', rt := Q } (start n_Pacts___eq__ [.ref x, z]) H := by
        intro t ty ki
        refine ⟨_, (pss_cons (ps_if (pt_not (pt_val (pe_callB call_isi (by rfl) T.z_isinstance (by decide +kernel) (pa_cons (pv 1) (pa_cons (pe_glob (v := .ref a.c_Pacts) rfl T.m_Pacts rfl) pa_nil))))) (pss_one (ps_ret pe_bl)) pss_nil)
      (pss_one (ps_ret (pe_and (pe_cmpR (op_eqD (hr.units)) (pe_fld (pv 0) rfl) (pe_fld (pv 1) rfl) (nomark _)) (pe_one (pe_cmpR (op_eqD (hr.units)) (pe_meth0 (pv 0) T.cl_Pacts T.mt_Pacts_lines_told G_Pacts_lines_told (hr.mono (by decide)) T.b_Pacts_lines_told .nil pass0) (pe_meth0 (pv 1) T.cl_Pacts T.mt_Pacts_lines_told G_Pacts_lines_told (hr.mono (by decide)) T.b_Pacts_lines_told .nil pass0) (nomark _))))))), ?_⟩
        walk_at "go"
        refine ⟨.own _, ty, ki, ?_⟩
        walk_at "go"
        exact q
      cases z with
      | str k => exact go _ (.base (.str k)) oc.k1
      | int k => exact go _ (.base (.int k)) oc.k2
      | non => exact go _ (.base .non) oc.k3
      | ref p =>
        obtain ⟨xs, hp⟩ := hz
        exact go _ (.base (.lst hp)) oc.k4
      | _ => exact hz.elim
end
end Pf
set_option Elab.async false
set_option linter.all false
set_option maxRecDepth 100000
set_option maxHeartbeats 4000000
namespace Pf
open PySem L2
local macro_rules | `(tactic| walk_at "nz") => `(tactic| (show (_ : Int) ≠ 0; omega))
local macro_rules | `(tactic| walk_at "ne") => `(tactic| first | assumption | (apply Ne.symm; assumption))
local macro_rules | `(tactic| walk_at "hp") => `(tactic| first | assumption | exact upd_same | (refine upd_get ?_ ?_; walk_at "ne"; walk_at "hp"))
local macro_rules | `(tactic| walk_at "sd") => `(tactic| first
  | (with_reducible show (_ : Int) < _; omega)
  | (with_reducible show (_ : Int) ≤ _; omega)
  | (with_reducible show (_ : Nat) < _; omega)
  | (with_reducible show (_ : Nat) ≤ _; omega)
  | rfl
  | assumption
  | exact kV_int _
  | exact kV_str _
  | (show (_ : Int) ≠ 0; omega)
  | exact SqL.of (by walk_at "hp")
  | exact ⟨_, SqL.of (by walk_at "hp")⟩
  | exact ⟨_, SqT.of (by walk_at "hp")⟩
  | exact ⟨_, (by assumption)⟩
  | exact SqT.of (by walk_at "hp")
  | exact Rd.of (by walk_at "hp")
  | exact Or.inl (SqL.of (by walk_at "hp"))
  | exact Or.inr (SqT.of (by walk_at "hp"))
  | exact Or.inr (by assumption)
  | (walk_at "hp")
  | (exact Or.inl ⟨rfl, _, SqL.of (by walk_at "hp")⟩)
  | (exact Or.inl ⟨by omega, by omega⟩)
  | (exact Or.inr ⟨by omega, by omega⟩)
  | (refine ⟨?_, ?_, ?_⟩ <;> omega)
  | omega
  | (exact small_le (by first | omega | (simp only [List.length_cons, List.length_nil]; omega)))
  | (exact small_lt (by first | omega | (simp only [List.length_cons, List.length_nil]; omega)))
  | exact Nat.le_of_ble_eq_true rfl
  | exact ⟨_, rfl⟩
  | decide)
local macro_rules | `(tactic| walk_at "st") => `(tactic| first
  | with_reducible refine sq_seq ?_
  | apply Exists.intro
  | (refine And.intro ?_ ?_; (walk_at "sd")))
local macro_rules | `(tactic| walk_at "go") => `(tactic| repeat (walk_at "st"))
section
variable {P : Program} {w : World} {K : PySem.W.Frag} {mg : Str → Option Value} {base : Heap} {a : Ad}
theorem ok_NoText___init__ (T : Txt K mg a) : FnOk P w K mg base CX0 1 a.f_NoText___init__ a.d_NoText___init__ ["self", "at"] (spErr a.c_NoText "at") := by
  refine T.F_NoText___init__.ok sc_NoText___init__ (fun vs H Q E h => ?_) (fun cdv A outer s H vs Q E hr h => ?_)
  · obtain ⟨e, v, rfl, _⟩ := h
    rfl
  · obtain ⟨e, v, rfl, he, q⟩ := h
    refine ⟨_, pss_one (ps_ost (pv 0) (pv 1)), ?_⟩
    exact ⟨_, rfl, _, rfl, e, a.c_NoText, rfl, T.ox_NoText, T.na_NoText_at, .inl ⟨he, q⟩⟩
theorem len3 {ws : List Str} (h : ws.length = 3) : ∃ x p q, ws = [x, p, q] := by
  match ws, h with
  | [x, p, q], _ => exact ⟨x, p, q, rfl⟩
theorem len4 {ws : List Str} (h : ws.length = 4) : ∃ x p q r, ws = [x, p, q, r] := by
  match ws, h with
  | [x, p, q, r], _ => exact ⟨x, p, q, r, rfl⟩
theorem rdP_no {ws : List Str} (h3 : ws.length ≠ 3) (h4 : ws.length ≠ 4) : rdP ws = none := by
  match ws, h3, h4 with
  | [], _, _ => rfl
  | [_], _, _ => rfl
  | [_, _], _, _ => rfl
  | [_, _, _], h, _ => exact absurd rfl h
  | [_, _, _, _], _, h => exact absurd rfl h
  | _ :: _ :: _ :: _ :: _ :: _, _, _ => rfl
def spRdP (N : Addr) : Sp := fun vs H Q E => ∃ (W : Addr) (ws : List Str) (n : Int), vs = [.ref W, .int n] ∧ H W = some (.lst (ws.map V.str)) ∧
  (∀ p, rdP ws = some p → ∀ t, H t = none → Q (.ref t) (upd H t (.tup [.str p.near, .str p.far, .bl p.laden]))) ∧
  (rdP ws = none → ∀ d H', H d = none → H' d = some (.xd [("at", .int n)]) → Same H H' → E (.ref N) (some d) H')
theorem ok_read_pair (T : Txt K mg a) : FnOk P w K mg base (L2.CX P w) 3 a.f_read_pair a.d_read_pair ["words", "at"] (spRdP a.c_NoText) := by
  have G_NoText___init__ := ok_NoText___init__ (P := P) (w := w) (base := base) T
  refine T.F_read_pair.okX sc_read_pair (fun vs H Q E h => ?_) (fun cdv A outer s H vs Q E hr h => ?_)
  · obtain ⟨W, ws, n, rfl, _⟩ := h
    rfl
  · obtain ⟨W, ws, n, rfl, hW, q1, q2⟩ := h
    have lw : (ws.map V.str).length = ws.length := List.length_map _
    refine ⟨_, (pss_cons (ps_if (PW.pt (pw_and (pt_cmpR op_eq (pe_callB call_lenK (by rfl) T.z_len PySem.boot_len (pa_cons (pv 0) pa_nil)) pe_int (nomark _)) (pw_and1 (pt_cmpR op_eq (pe_ix ix_list (pv 0) pe_int (fun _ _ => rfl)) pe_str (nomark _))))) (pss_one (ps_ret (pe_tup (pa_cons (pe_ix ix_list (pv 0) pe_int (fun _ _ => rfl)) (pa_cons (pe_ix ix_list (pv 0) pe_int (fun _ _ => rfl)) (pa_cons pe_bl pa_nil)))))) pss_nil)
      (pss_cons (ps_if (pt_cmpR op_ne (pe_callB call_lenK (by rfl) T.z_len PySem.boot_len (pa_cons (pv 0) pa_nil)) pe_int (nomark _)) (pss_one (ps_raise rfl (takes_of rfl rfl rfl rfl) (pmk_oex T.ox_NoText T.ini_NoText T.ti_NoText G_NoText___init__ (hr.mono (by decide)) T.b_NoText___init__ .nil pass0 rfl T.m_NoText (by exact (pa_cons (pv 1) pa_nil))))) pss_nil)
      (pss_one (ps_ret (pe_tup (pa_cons (pe_ix ix_list (pv 0) pe_int (fun _ _ => rfl)) (pa_cons (pe_ix ix_list (pv 0) pe_int (fun _ _ => rfl)) (pa_cons pe_bl pa_nil)))))))), ?_⟩
    by_cases h4 : ws.length = 4
    · obtain ⟨x, p, r, l, rfl⟩ := len4 h4
      have a1 : atI ([x, p, r, l].map V.str) 1 = some (.str p) := rfl
      have a2 : atI ([x, p, r, l].map V.str) 2 = some (.str r) := rfl
      have a3 : atI ([x, p, r, l].map V.str) 3 = some (.str l) := rfl
      walk_at "go"
      refine ifD (fun b => ?_) (fun b => ?_)
      · have b1 : l = "laden" := V.str.inj b
        walk_at "go"
        exact q1 ⟨p, r, true⟩ (by show (if l = "laden" then some (⟨p, r, true⟩ : Pr) else none) = _; rw [if_pos b1])
      · have b1 : ¬ l = "laden" := fun z => b (congrArg V.str z)
        walk_at "go"
        exact (raise_err (q2 (by show (if l = "laden" then some (⟨p, r, true⟩ : Pr) else none) = _; rw [if_neg b1]))).2
    · walk_at "go"
      refine ifNo (fun z => h4 (by have := V.int.inj z; omega)) ?_
      walk_at "go"
      by_cases h3 : ws.length = 3
      · obtain ⟨x, p, r, rfl⟩ := len3 h3
        have a1 : atI ([x, p, r].map V.str) 1 = some (.str p) := rfl
        have a2 : atI ([x, p, r].map V.str) 2 = some (.str r) := rfl
        refine ifNN rfl ?_
        walk_at "go"
        exact q1 ⟨p, r, false⟩ rfl
      · refine ifNY (fun z => h3 (by have := V.int.inj z; omega)) ?_
        walk_at "go"
        exact (raise_err (q2 (rdP_no h3 h4))).2
theorem rdH_short {ws : List Str} (h : ws.length < 3) : rdH ws = none := by
  match ws, h with
  | [], _ => rfl
  | [_], _ => rfl
  | [_, _], _ => rfl
theorem len3up {ws : List Str} (h : ¬ ws.length < 3) : ∃ x n s r, ws = x :: n :: s :: r := by
  match ws, h with
  | [], h => exact absurd (by decide) h
  | [_], h => exact absurd (by show 1 < 3; decide) h
  | [_, _], h => exact absurd (by show 2 < 3; decide) h
  | x :: n :: s :: r, _ => exact ⟨x, n, s, r, rfl⟩
def sides : List Str := ["0", "1"]
def sideOf (s : Str) : Int := if s = "0" then 0 else 1
theorem rdH_eq {x n s : Str} {r : List Str} (h : s ∈ sides) : rdH (x :: n :: s :: r) = rdT n (sideOf s) r := by
  show (if s = "0" then rdT n 0 r else if s = "1" then rdT n 1 r else none) = _
  unfold sideOf
  by_cases c : s = "0"
  · rw [if_pos c, if_pos c]
  · rw [if_neg c, if_neg c]
    unfold sides at h
    rcases List.mem_cons.mp h with z | z
    · exact absurd z c
    · rw [if_pos (List.mem_singleton.mp z)]
theorem rdH_side {x n s : Str} {r : List Str} (h : s ∉ sides) : rdH (x :: n :: s :: r) = none := by
  show (if s = "0" then rdT n 0 r else if s = "1" then rdT n 1 r else none) = _
  rw [if_neg (fun z => h (by rw [z]; unfold sides; simp)), if_neg (fun z => h (by rw [z]; unfold sides; simp))]
theorem int_side {s : Str} (h : s ∈ sides) : PySem.intText? s = some (sideOf s) ∧ s.length ≤ 640 := by
  unfold sides at h
  rcases List.mem_cons.mp h with z | z
  · rw [z]
    exact ⟨by decide +kernel, by decide +kernel⟩
  · rw [List.mem_singleton.mp z]
    exact ⟨by decide +kernel, by decide +kernel⟩
def spRdH (K : PySem.W.Frag) (N : Addr) : Sp := fun vs H Q E => ∃ (W : Addr) (ws : List Str) (n : Int), vs = [.ref W, .int n] ∧ H W = some (.lst (ws.map V.str)) ∧ ws.length ≤ 10000 ∧ (∀ w ∈ ws, PyData.strOk w = true) ∧
  (∀ h, rdH ws = some h → ∀ t H', H t = none → HlAt K H' (t, h) → Same H H' → Q (.ref t) H') ∧
  (rdH ws = none → ∀ d H', H d = none → H' d = some (.xd [("at", .int n)]) → Same H H' → E (.ref N) (some d) H')
theorem ok_read_helper (T : Txt K mg a) : FnOk P w K mg base (L2.CX P w) 3 a.f_read_helper a.d_read_helper ["words", "at"] (spRdH K a.c_NoText) := by
  have G_NoText___init__ := ok_NoText___init__ (P := P) (w := w) (base := base) T
  have cl_Pacts := T.cl_Pacts
  have na_Pacts_kept_pairs := T.na_Pacts_kept_pairs
  have na_Pacts_kept_pacts := T.na_Pacts_kept_pacts
  refine T.F_read_helper.okX sc_read_helper (fun vs H Q E h => ?_) (fun cdv A outer s H vs Q E hr h => ?_)
  · obtain ⟨W, ws, n, rfl, _⟩ := h
    rfl
  · obtain ⟨W, ws, n, rfl, hW, hlw, okw, q1, q2⟩ := h
    have lw : (ws.map V.str).length = ws.length := List.length_map _
    refine ⟨_, (pss_cons (ps_if (pt_mid (PW.pt (pw_or (pt_cmpR op_lt (pe_callB call_lenK (by rfl) T.z_len PySem.boot_len (pa_cons (pv 0) pa_nil)) pe_int (nomark _)) (pw_or1 (pt_cmpR op_notIn_seq (pe_ix ix_list (pv 0) pe_int (fun _ _ => rfl)) (pe_tup (pa_cons pe_str (pa_cons pe_str pa_nil))) (by rfl)))))) (pss_one (ps_raise rfl (takes_of rfl rfl rfl rfl) (pmk_oex T.ox_NoText T.ini_NoText T.ti_NoText G_NoText___init__ (hr.mono (by decide)) T.b_NoText___init__ .nil pass0 rfl T.m_NoText (by exact (pa_cons (pv 1) pa_nil))))) pss_nil)
      (pss_cons (ps_asg (pv 0) (pg_star3 rfl (pg_name (i := 2) sc_read_helper.nd rfl (Or.inl rfl)) (pg_name (i := 3) sc_read_helper.nd rfl (Or.inl rfl)) (pg_name (i := 4) sc_read_helper.nd rfl (Or.inl rfl)) (pg_name (i := 5) sc_read_helper.nd rfl (Or.inl rfl))))
      (pss_cons (ps_set (i := 6) sc_read_helper.nd rfl (Or.inl rfl) (pe_lst pa_nil))
      (pss_cons (ps_stop (ps_while (passes_of rfl) (pt_mid (PW.pt (pw_and (pt_cmpR op_gt (pe_callB call_lenK (by rfl) T.z_len PySem.boot_len (pa_cons (pv 5) pa_nil)) pe_int (nomark _)) (pw_and1 (pt_cmpR op_in_seq (pe_ix ix_list (pv 5) pe_int (fun _ _ => rfl)) (pe_glob (v := .ref a.k_HOWS) rfl T.g_HOWS rfl) (by rfl)))))) (pss_one (ps_expr (pe_bm PySem.F.plainAttrs_list PySem.F.slot_list_append PySem.F.type_list_append mt_append (pv 6) (pa_cons (pe_bm PySem.F.plainAttrs_list PySem.F.slot_list_pop PySem.F.type_list_pop mt_popAt (pv 5) (pa_cons pe_int pa_nil)) pa_nil))))))
      (pss_cons (ps_set (i := 7) sc_read_helper.nd rfl (Or.inl rfl) (pe_cmpR (op_eqD (hr.units)) (pe_slice sl_list (pv 5) po_none (po_some pe_int)) (pe_lst (pa_cons pe_str pa_nil)) (nomark _)))
      (pss_mid (ps_if (pt_val (pv 7)) (pss_one (ps_expr (pe_bm PySem.F.plainAttrs_list PySem.F.slot_list_pop PySem.F.type_list_pop mt_popAt (pv 5) (pa_cons pe_int pa_nil)))) pss_nil)
      (pss_cons (ps_if (pt_mid (PW.pt (pw_and (pt_cmpR op_gt (pe_callB call_lenK (by rfl) T.z_len PySem.boot_len (pa_cons (pv 5) pa_nil)) pe_int (nomark _)) (pw_and1 (PW.pt (pw_or (pt_cmpR op_ne (pe_ix ix_list (pv 5) pe_int (fun _ _ => rfl)) pe_str (nomark _)) (pw_or1 (pt_cmpR op_eq (pe_callB call_lenK (by rfl) T.z_len PySem.boot_len (pa_cons (pv 5) pa_nil)) pe_int (nomark _))))))))) (pss_one (ps_raise rfl (takes_of rfl rfl rfl rfl) (pmk_oex T.ox_NoText T.ini_NoText T.ti_NoText G_NoText___init__ (hr.mono (by decide)) T.b_NoText___init__ .nil pass0 rfl T.m_NoText (by exact (pa_cons (pv 1) pa_nil))))) pss_nil)
      (pss_one (ps_ret (pe_tup (pa_cons (pv 3) (pa_cons (pe_callTy call_int_str (by rfl) T.z_int (by decide +kernel) (pa_cons (pv 4) pa_nil)) (pa_cons (pe_callTy call_tuple_of (by rfl) T.z_tuple (by decide +kernel) (pa_cons (pv 6) pa_nil)) (pa_cons (pv 7) (pa_cons (pe_callTy call_tuple_of (by rfl) T.z_tuple (by decide +kernel) (pa_cons (pe_slice sl_list (pv 5) (po_some pe_int) po_none) pa_nil)) pa_nil))))))))))))))), ?_⟩
    refine sq_seq (midT_of (fun c H1 => Same H H1 ∧ (c = true → rdH ws = none) ∧ (c = false → ∃ x nm s r, ws = x :: nm :: s :: r ∧ s ∈ sides)) ?_ ?_)
    · walk_at "go"
      refine ifD (fun c1 => ?_) (fun c1 => ?_)
      · have c1 : ws.length < 3 := by omega
        exact wait ⟨fun _ _ e => e, fun _ => rdH_short c1, fun z => nomatch z⟩
      · obtain ⟨x, nm, s, r, rfl⟩ := len3up (ws := ws) (by omega)
        have a2 : atI ((x :: nm :: s :: r).map V.str) 2 = some (.str s) := by
          obtain ⟨v, e1, e2⟩ := atI_in (xs := (x :: nm :: s :: r).map V.str) (i := 2) (by omega) (by rw [List.length_map]; simp only [List.length_cons]; omega)
          have e2 : some (V.str s) = some v := e2
          rw [e1, e2]
        walk_at "go"
        intro p1 hp1
        have s1 : Same H (upd H p1 (.tup [.str "0", .str "1"])) := Same.upd_new hp1
        refine ⟨p1, _, rfl, .inr (SqT.of upd_same), rfl, rfl, ?_⟩
        rw [if_pos rfl, show inV (.str s) [.str "0", .str "1"] = decide (s ∈ sides) from in_strs s sides]
        refine ⟨_, rfl, wait ⟨s1, fun z => ?_, fun z => ⟨x, nm, s, r, rfl, ?_⟩⟩⟩
        · refine rdH_side fun q => ?_
          rw [decide_eq_true q] at z
          cases z
        · by_cases q : s ∈ sides
          · exact q
          · rw [decide_eq_false q] at z
            cases z
    rintro c H1 ⟨s1, hc1, hc2⟩
    refine ifB (fun e => ?_) (fun e => ?_)
    · walk_at "go"
      exact (raise_err fun d H' hd hd1 s2 => q2 (hc1 e) d H' (same_none' s1 hd) hd1 (s1.trans s2)).2
    obtain ⟨x, nm, sd, r, rfl, hs⟩ := hc2 e
    have hW1 := s1 _ _ hW
    have lr : r.length ≤ 10000 := by simp only [List.length_cons] at hlw; omega
    walk_at "go"
    intro R hR
    obtain ⟨H2, e2⟩ : ∃ H2, H2 = upd H1 R (.lst (r.map V.str)) := ⟨_, rfl⟩
    have s2 : Same H1 H2 := by rw [e2]; exact Same.upd_new hR
    have hR2 : H2 R = some (.lst (r.map V.str)) := by rw [e2, upd_same]
    rw [← e2]
    walk_at "go"
    intro Tk hT
    obtain ⟨H3, e3⟩ : ∃ H3, H3 = upd H2 Tk (.lst []) := ⟨_, rfl⟩
    have s3 : Same H2 H3 := by rw [e3]; exact Same.upd_new hT
    have hT3 : H3 Tk = some (.lst []) := by rw [e3, upd_same]
    rw [← e3]
    have hR3 := s3 _ _ hR2
    have nRT : R ≠ Tk := ne_of_none hR2 hT
    have hR0 : H R = none := same_none' s1 hR
    have hT1 : H1 Tk = none := same_none' s2 hT
    have hT0 : H Tk = none := same_none' s1 hT1
    walk_at "go"
    refine while_W (fun m σ H4 => ∃ ts q : List Str, m = q.length ∧ ts ++ q = r ∧ (∀ w ∈ ts, w ∈ hows) ∧ σ = [some (.ref W), some (.int n), some (.str x), some (.str nm), some (.str sd), some (.ref R), some (.ref Tk), none] ∧ H4 R = some (.lst (q.map V.str)) ∧ H4 Tk = some (.lst (ts.map V.str)) ∧ Same H H4) r.length ?_ ?_
    · exact ⟨[], r, rfl, rfl, (fun _ h => nomatch h), rfl, hR3, hT3, (s1.trans s2).trans s3⟩
    · rintro m σ H4 ⟨ts, q, rfl, etq, hts, rfl, hR4, hT4, s4⟩
      have lq : (q.map V.str).length = q.length := List.length_map _
      have ltq := congrArg List.length etq
      rw [List.length_append] at ltq
      refine midT_of (fun c H5 => H5 = H4 ∧ (c = true → ∃ w q', q = w :: q' ∧ w ∈ hows) ∧ (c = false → ∀ w, q.head? = some w → w ∉ hows)) ?_ ?_
      · walk_at "go"
        refine ifD (fun c1 => ?_) (fun c1 => ?_)
        · cases q with
          | nil => exact absurd c1 (by decide)
          | cons w q' =>
            have a0 : atI ((w :: q').map V.str) 0 = some (.str w) := by
              obtain ⟨v, e1, e2⟩ := atI_in (xs := (w :: q').map V.str) (i := 0) (by omega) (by rw [List.length_map]; simp only [List.length_cons]; omega)
              have e2 : some (V.str w) = some v := e2
              rw [e1, e2]
            walk_at "go"
            refine ⟨.inr (T.tp_HOWS _), rfl, rfl, ?_⟩
            rw [if_neg (by decide), show inV (.str w) [.str "lent", .str "given"] = decide (w ∈ hows) from in_strs w hows]
            refine ⟨_, rfl, wait ⟨rfl, fun z => ⟨w, q', rfl, of_decide_eq_true z⟩, fun z v hv => ?_⟩⟩
            rw [← Option.some.inj hv]
            exact of_decide_eq_false z
        · cases q with
          | nil => exact wait ⟨rfl, (fun z => nomatch z), fun _ w z => nomatch z⟩
          | cons w q' => exact absurd (by rw [List.length_map, List.length_cons]; omega) c1
      rintro c5 H5 ⟨rfl, h51, h52⟩
      refine ifB (fun e => ?_) (fun e => ?_)
      · obtain ⟨w, q', rfl, hw⟩ := h51 e
        refine next_W ?_
        have hzv : ((w :: q').map V.str)[0]? = some (.str w) := rfl
        have hsi : seqIndex? 0 ((w :: q').map V.str).length = some 0 := seqIndex_of (by omega) (by rw [List.length_map]; simp only [List.length_cons]; omega)
        walk_at "go"
        simp only [List.length_cons] at ltq
        refine ⟨small_lt (by rw [List.length_map]; omega), wait ⟨q'.length, by simp only [List.length_cons]; omega, ts ++ [w], q', rfl, ?_, fun v hv => ?_, rfl, ?_, ?_, fun y o ey => upd_get (ne_of_none ey hT0) (upd_get (ne_of_none ey hR0) (s4 _ _ ey))⟩⟩
        · rw [← etq, List.append_assoc] <;> rfl
        · rcases List.mem_append.mp hv with z | z
          · exact hts v z
          · rw [List.mem_singleton.mp z]
            exact hw
        · rw [upd_ne nRT, upd_same] <;> rfl
        · rw [upd_same, List.map_append] <;> rfl
      · have h52 := h52 e
        have esp : spanH r = (ts, q) := by rw [← etq]; exact spanH_of hts h52
        have okq : ∀ w ∈ q, PyData.strOk w = true := fun w hw => okw w (by
          refine List.mem_cons_of_mem _ (List.mem_cons_of_mem _ (List.mem_cons_of_mem _ ?_))
          rw [← etq]
          exact List.mem_append.mpr (.inr hw))
        walk_at "go"
        rw [cutV_t1, ← List.map_take]
        intro p6 hp6
        obtain ⟨H6, e6⟩ : ∃ H6, H6 = upd H5 p6 (.lst ((q.take 1).map V.str)) := ⟨_, rfl⟩
        have s6 : Same H5 H6 := by rw [e6]; exact Same.upd_new hp6
        have h6 : H6 p6 = some (.lst ((q.take 1).map V.str)) := by rw [e6, upd_same]
        show tLst _ _ (upd H5 p6 (.lst ((q.take 1).map V.str))) _
        rw [← e6]
        walk_at "go"
        intro p7 hp7
        obtain ⟨H7, e7⟩ : ∃ H7, H7 = upd H6 p7 (.lst [.str "gives"]) := ⟨_, rfl⟩
        have s7 : Same H6 H7 := by rw [e7]; exact Same.upd_new hp7
        have h7 : H7 p7 = some (.lst [.str "gives"]) := by rw [e7, upd_same]
        rw [← e7]
        have d1 : Dp K H7 (.ref p6) (.list ((q.take 1).map PyData.str)) := .lst (SqL.of (s7 _ _ h6)) (dp_strs _)
        have d2 : Dp K H7 (.ref p7) (.list ((["gives"] : List Str).map PyData.str)) := .lst (SqL.of h7) (dp_strs ["gives"])
        have sh1 := shaped_strs (ws := q.take 1) fun w hw => okq w (List.mem_of_mem_take hw)
        have sh2 := shaped_strs (ws := ["gives"]) (by decide +kernel)
        have eg : PyData.eqv (.list ((q.take 1).map PyData.str)) (.list ((["gives"] : List Str).map PyData.str)) = givR q := by
          cases q with
          | nil => rfl
          | cons w q' =>
            show ((w == ("gives" : Str)) && true) = decide (some w = some ("gives" : Str))
            by_cases c : w = "gives"
            · rw [c, decide_eq_true rfl]; simp
            · rw [decide_eq_false (fun z => c (Option.some.inj z))]
              simp [c]
        refine ⟨_, _, d1, d2, sh1, sh2, ?_⟩
        rw [eg]
        have s57 : Same H5 H7 := s6.trans s7
        have hR7 := s57 _ _ hR4
        have hT7 := s57 _ _ hT4
        have s07 : Same H H7 := s4.trans s57
        refine mid_of (fun σ H8 => σ = [some (.ref W), some (.int n), some (.str x), some (.str nm), some (.str sd), some (.ref R), some (.ref Tk), some (.bl (givR q))] ∧ H8 R = some (.lst ((if givR q = true then q.tail else q).map V.str)) ∧ H8 Tk = some (.lst (ts.map V.str)) ∧ Same H H8) ?_ ?_
        · cases hg : givR q with
          | true =>
            cases q with
            | nil => cases hg
            | cons w q' =>
              have hzv : ((w :: q').map V.str)[0]? = some (.str w) := rfl
              have hsi : seqIndex? 0 ((w :: q').map V.str).length = some 0 := seqIndex_of (by omega) (by rw [List.length_map]; simp only [List.length_cons]; omega)
              walk_at "go"
              refine wait ⟨rfl, ?_, upd_get nRT.symm hT7, fun y o ey => upd_get (ne_of_none ey hR0) (s07 _ _ ey)⟩
              rw [upd_same, if_pos rfl] <;> rfl
          | false =>
            walk_at "go"
            refine ifF rfl ?_
            refine wait ⟨rfl, ?_, hT7, s07⟩
            rw [hR7, if_neg (by decide)]
        rintro σ H8 ⟨rfl, hR8, hT8, s8⟩
        obtain ⟨z2, eq2⟩ : ∃ z2, z2 = if givR q = true then q.tail else q := ⟨_, rfl⟩
        rw [← eq2] at hR8
        have l2 : (z2.map V.str).length = z2.length := List.length_map _
        refine sq_seq (midT_of (fun c H9 => H9 = H8 ∧ (c = true → thrR z2 = none) ∧ (c = false → thrR z2 = some (z2.drop 1))) ?_ ?_)
        · walk_at "go"
          refine ifD (fun c1 => ?_) (fun c1 => ?_)
          · cases z2 with
            | nil => exact absurd c1 (by decide)
            | cons w q' =>
              have a0 : atI ((w :: q').map V.str) 0 = some (.str w) := by
                obtain ⟨v, e1, e2⟩ := atI_in (xs := (w :: q').map V.str) (i := 0) (by omega) (by rw [List.length_map]; simp only [List.length_cons]; omega)
                have e2 : some (V.str w) = some v := e2
                rw [e1, e2]
              walk_at "go"
              by_cases b : w = "throws"
              · rw [decide_eq_true (congrArg V.str b)]
                refine ifF rfl ?_
                walk_at "go"
                refine wait ⟨rfl, fun z => ?_, fun z => ?_⟩
                · have := V.int.inj (of_decide_eq_true z)
                  rw [List.length_map, List.length_cons] at this
                  have e0 : q' = [] := List.eq_nil_of_length_eq_zero (by omega)
                  show (if w = "throws" ∧ q' ≠ [] then some q' else none) = none
                  rw [if_neg (fun y => y.2 e0)]
                · have := of_decide_eq_false z
                  show (if w = "throws" ∧ q' ≠ [] then some q' else none) = some q'
                  rw [if_pos ⟨b, fun e0 => this (by rw [e0] <;> rfl)⟩]
              · rw [decide_eq_false (fun z => b (V.str.inj z))]
                refine ifT rfl (wait ⟨rfl, fun _ => ?_, fun z => nomatch z⟩)
                show (if w = "throws" ∧ q' ≠ [] then some q' else none) = none
                rw [if_neg (fun y => b y.1)]
          · cases z2 with
            | nil => exact wait ⟨rfl, (fun z => nomatch z), fun _ => rfl⟩
            | cons w q' => exact absurd (by rw [List.length_map, List.length_cons]; omega) c1
        rintro c9 H9 ⟨rfl, h91, h92⟩
        refine ifB (fun e => ?_) (fun e => ?_)
        · have en : rdH (x :: nm :: sd :: r) = none := by
            rw [rdH_eq hs]
            unfold rdT tailR
            rw [esp, ← eq2, h91 e] <;> rfl
          walk_at "go"
          exact (raise_err fun d H' hd hd1 s10 => q2 en d H' (same_none' s8 hd) hd1 (s8.trans s10)).2
        · have en : rdH (x :: nm :: sd :: r) = some ⟨nm, sideOf sd, ts, givR q, z2.drop 1⟩ := by
            rw [rdH_eq hs]
            unfold rdT tailR
            rw [esp, ← eq2, h92 e] <;> rfl
          obtain ⟨hi1, hi2⟩ := int_side hs
          walk_at "go"
          refine .inl ⟨SqL.of hT8, fun t10 ht10 => ?_⟩
          obtain ⟨H10, e10⟩ : ∃ H10, H10 = upd H9 t10 (.tup (ts.map V.str)) := ⟨_, rfl⟩
          have s10 : Same H9 H10 := by rw [e10]; exact Same.upd_new ht10
          have h10 : H10 t10 = some (.tup (ts.map V.str)) := by rw [e10, upd_same]
          rw [← e10]
          have hR10 := s10 _ _ hR8
          walk_at "go"
          rw [cutV_f1, ← List.map_drop]
          intro p11 hp11
          obtain ⟨H11, e11⟩ : ∃ H11, H11 = upd H10 p11 (.lst ((z2.drop 1).map V.str)) := ⟨_, rfl⟩
          have s11 : Same H10 H11 := by rw [e11]; exact Same.upd_new hp11
          have h11 : H11 p11 = some (.lst ((z2.drop 1).map V.str)) := by rw [e11, upd_same]
          show tNil _ (upd H10 p11 (.lst ((z2.drop 1).map V.str))) _
          rw [← e11]
          refine ⟨p11, _, rfl, .inl ⟨SqL.of h11, fun t12 ht12 => ?_⟩⟩
          obtain ⟨H12, e12⟩ : ∃ H12, H12 = upd H11 t12 (.tup ((z2.drop 1).map V.str)) := ⟨_, rfl⟩
          have s12 : Same H11 H12 := by rw [e12]; exact Same.upd_new ht12
          have h12 : H12 t12 = some (.tup ((z2.drop 1).map V.str)) := by rw [e12, upd_same]
          rw [← e12]
          walk_at "go"
          intro t13 ht13
          have s13 : Same H12 (upd H12 t13 (.tup [.str nm, .int (sideOf sd), .ref t10, .bl (givR q), .ref t12])) := Same.upd_new ht13
          have s912 := (s10.trans s11).trans s12
          refine q1 ⟨nm, sideOf sd, ts, givR q, z2.drop 1⟩ en t13 _ (same_none' (s8.trans s912) ht13) ⟨t10, t12, upd_same, SqT.of (s13 _ _ (s12 _ _ (s11 _ _ h10))), SqT.of (s13 _ _ h12)⟩ ((s8.trans s912).trans s13)
end
end Pf
set_option Elab.async false
set_option linter.all false
set_option maxRecDepth 100000
set_option maxHeartbeats 4000000
namespace Pf
open PySem L2
local macro_rules | `(tactic| walk_at "nz") => `(tactic| (show (_ : Int) ≠ 0; omega))
local macro_rules | `(tactic| walk_at "ne") => `(tactic| first | assumption | (apply Ne.symm; assumption))
local macro_rules | `(tactic| walk_at "hp") => `(tactic| first | assumption | exact upd_same | (refine upd_get ?_ ?_; walk_at "ne"; walk_at "hp"))
local macro_rules | `(tactic| walk_at "sd") => `(tactic| first
  | (with_reducible show (_ : Int) < _; omega)
  | (with_reducible show (_ : Int) ≤ _; omega)
  | (with_reducible show (_ : Nat) < _; omega)
  | (with_reducible show (_ : Nat) ≤ _; omega)
  | rfl
  | assumption
  | exact kV_int _
  | exact kV_str _
  | (show (_ : Int) ≠ 0; omega)
  | exact SqL.of (by walk_at "hp")
  | exact ⟨_, SqL.of (by walk_at "hp")⟩
  | exact ⟨_, SqT.of (by walk_at "hp")⟩
  | exact ⟨_, (by assumption)⟩
  | exact SqT.of (by walk_at "hp")
  | exact Rd.of (by walk_at "hp")
  | exact Or.inl (SqL.of (by walk_at "hp"))
  | exact Or.inr (SqT.of (by walk_at "hp"))
  | exact Or.inr (by assumption)
  | (walk_at "hp")
  | (exact Or.inl ⟨rfl, _, SqL.of (by walk_at "hp")⟩)
  | (exact Or.inl ⟨by omega, by omega⟩)
  | (exact Or.inr ⟨by omega, by omega⟩)
  | (refine ⟨?_, ?_, ?_⟩ <;> omega)
  | omega
  | (exact small_le (by first | omega | (simp only [List.length_cons, List.length_nil]; omega)))
  | (exact small_lt (by first | omega | (simp only [List.length_cons, List.length_nil]; omega)))
  | exact Nat.le_of_ble_eq_true rfl
  | exact ⟨_, rfl⟩
  | decide)
local macro_rules | `(tactic| walk_at "st") => `(tactic| first
  | with_reducible refine sq_seq ?_
  | apply Exists.intro
  | (refine And.intro ?_ ?_; (walk_at "sd")))
local macro_rules | `(tactic| walk_at "go") => `(tactic| repeat (walk_at "st"))
section
variable {P : Program} {w : World} {K : PySem.W.Frag} {mg : Str → Option Value} {base : Heap} {a : Ad}
theorem head_ne {x : Str} : ∃ w r, Txt.split x " " = w :: r := by
  cases e : Txt.split x " " with
  | nil => exact absurd e (sepB.some x)
  | cons w r => exact ⟨w, r, rfl⟩
def kinds : List Str := ["word", "helper"]
theorem step_no {s : RS} {l w : Str} {r : List Str} (e : Txt.split l " " = w :: r) (h : ("" : Str) ∈ w :: r ∨ w ∉ kinds ∨ (w = "word" ∧ s.2 ≠ [])) : stepL s l = none := by
  unfold stepL
  rw [e]
  by_cases c : ("" : Str) ∈ w :: r
  · rw [if_pos c]
  · rw [if_neg c]
    rcases h with h | h | h
    · exact absurd h c
    · rw [if_neg (fun z => h (by rw [Option.some.inj z]; unfold kinds; simp)), if_neg (fun z => h (by rw [Option.some.inj z]; unfold kinds; simp))]
    · rw [if_pos (by rw [h.1] <;> rfl), if_neg h.2]
theorem step_w {s : RS} {l : Str} {r : List Str} (e : Txt.split l " " = Str.ofString "word" :: r) (h : ("" : Str) ∉ ("word" : Str) :: r) (h2 : s.2 = []) : stepL s l = (rdP (("word" : Str) :: r)).map fun p => (s.1 ++ [p], s.2) := by
  unfold stepL
  rw [e, if_neg h, List.head?_cons, if_pos rfl, if_pos h2]
theorem step_h {s : RS} {l : Str} {r : List Str} (e : Txt.split l " " = Str.ofString "helper" :: r) (h : ("" : Str) ∉ ("helper" : Str) :: r) : stepL s l = (rdH (("helper" : Str) :: r)).map fun p => (s.1, s.2 ++ [p]) := by
  unfold stepL
  rw [e, if_neg h, List.head?_cons, if_neg (fun z => word_helper (Option.some.inj z)), if_pos rfl]
def spRead (K : PySem.W.Frag) (C NT NP : Addr) : Sp := fun vs H Q E => ∃ page : Str, vs = [.str page] ∧ page.length ≤ 7900 ∧ PyData.strOk page = true ∧
  (∀ ps hs, rdPre (linesOf page) = some (ps, hs) → okPs ps → okHs ps hs → ∀ (x kp kd : Addr) (L : List (Addr × Pr)) (M : List (Addr × Hl)) (H' : Hp), L.map (·.2) = ps → M.map (·.2) = hs → PactsH K C H' x kp kd L M → Same H H' → Q (.ref x) H') ∧
  (∀ ps hs z, rdPre (linesOf page) = some (ps, hs) → FB ps hs z → z ≠ -1 → ∀ (d : Addr) (H' : Hp), H d = none → H' d = some (.xd [("at", .int z)]) → Same H H' → E (.ref NP) (some d) H') ∧
  (∀ i : Nat, BadL (linesOf page) i → ∀ (d : Addr) (H' : Hp), H d = none → H' d = some (.xd [("at", .int i)]) → Same H H' → E (.ref NT) (some d) H')
theorem ok_read_pacts (T : Txt K mg a) : FnOk P w K mg base (L2.CX P w) 5 a.f_read_pacts a.d_read_pacts ["text"] (spRead K a.c_Pacts a.c_NoText a.c_NoPact) := by
  have G_Pacts___init__ := ok_Pacts___init__ (P := P) (w := w) (base := base) T
  have G_NoText___init__ := ok_NoText___init__ (P := P) (w := w) (base := base) T
  have G_read_pair := ok_read_pair (P := P) (w := w) (base := base) T
  have G_read_helper := ok_read_helper (P := P) (w := w) (base := base) T
  have cl_Pacts := T.cl_Pacts
  have na_Pacts_kept_pairs := T.na_Pacts_kept_pairs
  have na_Pacts_kept_pacts := T.na_Pacts_kept_pacts
  refine T.F_read_pacts.okX sc_read_pacts (fun vs H Q E h => ?_) (fun cdv A outer s H vs Q E hr h => ?_)
  · obtain ⟨page, rfl, _⟩ := h
    rfl
  · obtain ⟨page, rfl, hl, ok, q1, q2, q3⟩ := h
    have hsz : page.length + 2 ≤ sizeLine := small_le (by omega)
    have lmany := lines_many page
    refine ⟨_, (pss_cons (ps_set (i := 1) sc_read_pacts.nd rfl (Or.inl rfl) (pe_lst pa_nil))
      (pss_cons (ps_set (i := 2) sc_read_pacts.nd rfl (Or.inl rfl) (pe_lst pa_nil))
      (pss_cons (ps_set (i := 3) sc_read_pacts.nd rfl (Or.inl rfl) (pe_split (pv 0) pe_str))
      (pss_mid (ps_if (pt_cmpR op_eq (pv 0) pe_str (nomark _)) (pss_one (ps_set (i := 3) sc_read_pacts.nd rfl (Or.inl rfl) (pe_lst pa_nil))) pss_nil)
      (pss_cons (ps_stop (ps_for (passes_of rfl) rfl (pi_wait (pi_enum rfl T.z_enumerate (pa_cons (pv 3) pa_nil))) (pg_tup rfl (pgs_cons (pg_name (i := 4) sc_read_pacts.nd rfl (Or.inl rfl)) (pgs_cons (pg_name (i := 5) sc_read_pacts.nd rfl (Or.inl rfl)) pgs_nil))) (pss_cons (ps_set (i := 6) sc_read_pacts.nd rfl (Or.inl rfl) (pe_split (pv 5) pe_str))
      (pss_cons (ps_if (pt_mid (PW.pt (pw_or (pt_cmpR op_in_seq pe_str (pv 6) (by rfl)) (pw_or (pt_cmpR op_notIn_seq (pe_ix ix_list (pv 6) pe_int (fun _ _ => rfl)) (pe_tup (pa_cons pe_str (pa_cons pe_str pa_nil))) (by rfl)) (pw_or1 (PW.pt (pw_and (pt_cmpR op_eq (pe_ix ix_list (pv 6) pe_int (fun _ _ => rfl)) pe_str (nomark _)) (pw_and1 (pt_cmpR op_gt (pe_callB call_lenK (by rfl) T.z_len PySem.boot_len (pa_cons (pv 2) pa_nil)) pe_int (nomark _)))))))))) (pss_one (ps_raise rfl (takes_of rfl rfl rfl rfl) (pmk_oex T.ox_NoText T.ini_NoText T.ti_NoText G_NoText___init__ (hr.mono (by decide)) T.b_NoText___init__ .nil pass0 rfl T.m_NoText (by exact (pa_cons (pv 4) pa_nil))))) pss_nil)
      (pss_one (ps_if (pt_cmpR op_eq (pe_ix ix_list (pv 6) pe_int (fun _ _ => rfl)) pe_str (nomark _)) (pss_one (ps_expr (pe_bm PySem.F.plainAttrs_list PySem.F.slot_list_append PySem.F.type_list_append mt_append (pv 1) (pa_cons (pe_call G_read_pair (hr.mono (by decide)) rfl T.m_read_pair T.F_read_pair.kp T.b_read_pair .nil (passes_call (takes_of rfl rfl rfl rfl) (fun _ _ _ _ h => h)) (pa_cons (pv 6) (pa_cons (pv 4) pa_nil))) pa_nil)))) (pss_one (ps_expr (pe_bm PySem.F.plainAttrs_list PySem.F.slot_list_append PySem.F.type_list_append mt_append (pv 2) (pa_cons (pe_call G_read_helper (hr.mono (by decide)) rfl T.m_read_helper T.F_read_helper.kp T.b_read_helper .nil (passes_call (takes_of rfl rfl rfl rfl) (fun _ _ _ _ h => h)) (pa_cons (pv 6) (pa_cons (pv 4) pa_nil))) pa_nil))))))))))
      (pss_one (ps_ret (pe_make T.mk_Pacts G_Pacts___init__ (hr.mono (by decide)) rfl T.m_Pacts T.b_Pacts___init__ .nil (passes_call (takes_of rfl rfl rfl rfl) (fun _ _ _ _ h => h)) (pa_cons (pv 1) (pa_cons (pv 2) pa_nil)))))))))), ?_⟩
    walk_at "go"
    intro Pp hPp
    obtain ⟨H1, e1⟩ : ∃ H1, H1 = upd H Pp (.lst []) := ⟨_, rfl⟩
    have s1 : Same H H1 := by rw [e1]; exact Same.upd_new hPp
    have h1 : H1 Pp = some (.lst []) := by rw [e1, upd_same]
    rw [← e1]
    walk_at "go"
    intro Pf hPf
    obtain ⟨H2, e2⟩ : ∃ H2, H2 = upd H1 Pf (.lst []) := ⟨_, rfl⟩
    have s2 : Same H1 H2 := by rw [e2]; exact Same.upd_new hPf
    have h2 : H2 Pf = some (.lst []) := by rw [e2, upd_same]
    rw [← e2]
    have nPF : Pp ≠ Pf := ne_of_none h1 hPf
    have hPf0 : H Pf = none := same_none' s1 hPf
    walk_at "go"
    intro Ln hLn
    obtain ⟨H3, e3⟩ : ∃ H3, H3 = upd H2 Ln (.lst ((Txt.split page "\n").map V.str)) := ⟨_, rfl⟩
    have s3 : Same H2 H3 := by rw [e3]; exact Same.upd_new hLn
    have h3 : H3 Ln = some (.lst ((Txt.split page "\n").map V.str)) := by rw [e3, upd_same]
    rw [← e3]
    have h23 := s3 _ _ h2
    have h13 := s3 _ _ (s2 _ _ h1)
    refine mid_of (fun σ H4 => ∃ Ln', σ = [some (.str page), some (.ref Pp), some (.ref Pf), some (.ref Ln'), none, none, none] ∧ H4 Ln' = some (.lst ((linesOf page).map V.str)) ∧ Ln' ≠ Pp ∧ Ln' ≠ Pf ∧ Same H3 H4) ?_ ?_
    · walk_at "go"
      refine ifD (fun b => ?_) (fun b => ?_)
      · have b1 : page = "" := V.str.inj b
        walk_at "go"
        intro p4 hp4
        refine wait ⟨p4, rfl, ?_, (ne_of_none h13 hp4).symm, (ne_of_none h23 hp4).symm, Same.upd_new hp4⟩
        rw [upd_same]
        unfold linesOf
        rw [if_pos b1] <;> rfl
      · have b1 : ¬ page = "" := fun z => b (congrArg V.str z)
        refine wait ⟨Ln, rfl, ?_, (ne_of_none (s2 _ _ h1) hLn).symm, (ne_of_none h2 hLn).symm, fun _ _ e => e⟩
        rw [h3]
        unfold linesOf
        rw [if_neg b1]
    rintro σ H4 ⟨Ln', rfl, hL4, nL1, nL2, s4⟩
    have h14 := s4 _ _ h13
    have h24 := s4 _ _ h23
    have s04 : Same H H4 := ((s1.trans s2).trans s3).trans s4
    refine sq_seq (stop_in ?_)
    walk_at "go"
    refine wait ?_
    refine forW (walk_enum (K := K) (xs := (linesOf page).map V.str)) (fun i σ H' => (∃ u4 u5 u6, σ = [some (.str page), some (.ref Pp), some (.ref Pf), some (.ref Ln'), u4, u5, u6]) ∧ H' Ln' = some (.lst ((linesOf page).map V.str)) ∧ Same H H' ∧
      ∃ (L : List (Addr × Pr)) (M : List (Addr × Hl)), rdPre ((linesOf page).take i) = some (L.map (·.2), M.map (·.2)) ∧ L.length + M.length = i ∧ PairsAt H' Pp L ∧ HelpersAt K H' Pf M) ?_ ?_ ?_ ?_
    · exact ⟨⟨_, _, _, rfl⟩, hL4, s04, [], [], rfl, rfl, ⟨h14, fun _ h => nomatch h⟩, ⟨h24, fun _ h => nomatch h⟩⟩
    · rintro i σ H' _ ⟨_, h, _⟩
      exact SqL.of h
    · rintro i v σ H5 H6 hi ⟨⟨u4, u5, u6, rfl⟩, hL5, s5, L, M, erd, hLM, PP5, HF5⟩ ⟨t, y1, y2, rfl, ht, rfl, hy1, hy2⟩
      have hy2 : ((linesOf page).map V.str)[i]? = some y2 := hy2
      rw [List.getElem?_map] at hy2
      obtain ⟨ln, hln, rfl⟩ := Option.map_eq_some_iff.mp hy2
      have hlt := (List.getElem?_eq_some_iff.mp hln).1
      have hlin := line_in (List.mem_of_getElem? hln)
      have hs2 := rdPre_snoc hln
      rw [erd] at hs2
      have hs2 : rdPre ((linesOf page).take (i + 1)) = stepL (L.map (·.2), M.map (·.2)) ln := hs2
      cases hy1
      obtain ⟨H6, e6⟩ : ∃ H6, H6 = upd H5 t (.tup [.int i, .str ln]) := ⟨_, rfl⟩
      have s6 : Same H5 H6 := by rw [e6]; exact Same.upd_new ht
      have hlsz : ln.length + 2 ≤ sizeLine := small_le (by omega)
      have ht6 : upd H5 t (.tup [.int i, .str ln]) t = some (.tup [.int i, .str ln]) := upd_same
      walk_at "go"
      rw [← e6]
      intro W hW
      obtain ⟨w0, wr, ews⟩ := head_ne (x := ln)
      rw [ews]
      obtain ⟨H7, e7⟩ : ∃ H7, H7 = upd H6 W (.lst ((w0 :: wr).map V.str)) := ⟨_, rfl⟩
      have s7 : Same H6 H7 := by rw [e7]; exact Same.upd_new hW
      have hW7 : H7 W = some (.lst ((w0 :: wr).map V.str)) := by rw [e7, upd_same]
      rw [← e7]
      have s57 : Same H5 H7 := s6.trans s7
      have HF7 := HF5.same s57
      have PP7 := PP5.same s57
      have hlF7 := HF7.ls
      have a0 : atI ((w0 :: wr).map V.str) 0 = some (.str w0) := by
        obtain ⟨v, e1, e2⟩ := atI_in (xs := (w0 :: wr).map V.str) (i := 0) (by omega) (by rw [List.length_map]; simp only [List.length_cons]; omega)
        have e2 : some (V.str w0) = some v := e2
        rw [e1, e2]
      refine sq_seq (midT_of (fun c H8 => Same H7 H8 ∧ (c = true → stepL (L.map (·.2), M.map (·.2)) ln = none) ∧ (c = false → ("" : Str) ∉ w0 :: wr ∧ w0 ∈ kinds ∧ (w0 = "word" → M = []))) ?_ ?_)
      · walk_at "go"
        refine ⟨flat_strs1 _, ?_⟩
        rw [if_neg (by decide), in_strs]
        by_cases c0 : ("" : Str) ∈ w0 :: wr
        · rw [decide_eq_true c0]
          exact ⟨_, rfl, ifT rfl (wait ⟨fun _ _ e => e, fun _ => step_no ews (.inl c0), fun z => nomatch z⟩)⟩
        rw [decide_eq_false c0]
        refine ⟨_, rfl, ifF rfl ?_⟩
        walk_at "go"
        intro pa hpa
        have sa : Same H7 (upd H7 pa (.tup [.str "word", .str "helper"])) := Same.upd_new hpa
        refine ⟨pa, _, rfl, .inr (SqT.of upd_same), rfl, rfl, ?_⟩
        rw [if_pos rfl, show inV (.str w0) [.str "word", .str "helper"] = decide (w0 ∈ kinds) from in_strs w0 kinds]
        by_cases c1 : w0 ∈ kinds
        · rw [decide_eq_true c1]
          refine ⟨_, rfl, ifF rfl ?_⟩
          have hWa := sa _ _ hW7
          have hlFa := sa _ _ hlF7
          have lm : (M.map fun e => V.ref e.1).length = M.length := List.length_map _
          walk_at "go"
          refine ifD (fun b => ?_) (fun b => ?_)
          · have b1 : w0 = "word" := V.str.inj b
            walk_at "go"
            refine wait ⟨sa, fun z => step_no ews (.inr (.inr ⟨b1, fun q => ?_⟩)), fun z => ⟨c0, c1, fun _ => ?_⟩⟩
            · have := of_decide_eq_true z
              have q : M.map (·.2) = [] := q
              have := congrArg List.length q
              rw [List.length_map] at this
              have e0 : ([] : List Hl).length = 0 := rfl
              omega
            · have := of_decide_eq_false z
              exact List.eq_nil_of_length_eq_zero (by omega)
          · have b1 : ¬ w0 = "word" := fun z => b (congrArg V.str z)
            exact wait ⟨sa, (fun z => nomatch z), fun _ => ⟨c0, c1, fun z => absurd z b1⟩⟩
        · rw [decide_eq_false c1]
          exact ⟨_, rfl, ifT rfl (wait ⟨sa, fun _ => step_no ews (.inr (.inl c1)), fun z => nomatch z⟩)⟩
      rintro c H8 ⟨s8, hc1, hc2⟩
      have s08 : Same H H8 := (s5.trans s57).trans s8
      refine ifB (fun e => ?_) (fun e => ?_)
      · walk_at "go"
        exact (raise_err fun d H' hd hd1 s9 => q3 i ⟨hlt, ⟨_, erd⟩, by rw [hs2]; exact hc1 e⟩ d H' (same_none' s08 hd) hd1 (s08.trans s9)).2
      obtain ⟨c0, ck, cw⟩ := hc2 e
      have hW8 := s8 _ _ hW7
      have PP8 := PP7.same s8
      have HF8 := HF7.same s8
      have hls8 := PP8.ls
      have hlF8 := HF8.ls
      have hL8 := s8 _ _ (s57 _ _ hL5)
      have lwr : (w0 :: wr).length ≤ 10000 := by
        have := sepB.len ln
        rw [ews] at this
        omega
      have okws : ∀ w ∈ w0 :: wr, PyData.strOk w = true := fun w hw => (sepB.piece (x := ln) (by rw [ews]; exact hw)).2 (hlin.2 ok)
      walk_at "go"
      refine ifD (fun b => ?_) (fun b => ?_)
      · have b1 : w0 = "word" := V.str.inj b
        have eM := cw b1
        subst eM
        subst b1
        have es := step_w (s := (L.map (·.2), ([] : List (Addr × Hl)).map (·.2))) ews c0 rfl
        walk_at "go"
        refine ⟨fun p hp t9 ht9 => ?_, fun hn d H' hd hd1 s9 => q3 i ⟨hlt, ⟨_, erd⟩, by rw [hs2, es, hn] <;> rfl⟩ d H' (same_none' s08 hd) hd1 (s08.trans s9)⟩
        have s9 : Same H8 (upd H8 t9 (.tup [.str p.near, .str p.far, .bl p.laden])) := Same.upd_new ht9
        have hls9 := s9 _ _ hls8
        have n9 : t9 ≠ Pp := (ne_of_none hls8 ht9).symm
        walk_at "go"
        refine ⟨small_lt (by rw [List.length_map]; omega), wait ⟨⟨_, _, _, rfl⟩, upd_get nL1 (s9 _ _ hL8), fun y o ey => upd_get (ne_of_none ey hPp) (s9 _ _ (s08 _ _ ey)), L ++ [(t9, p)], [], ?_, ?_, ⟨?_, fun d hd => ?_⟩, ⟨upd_get nPF.symm (s9 _ _ hlF8), fun _ h => nomatch h⟩⟩⟩
        · rw [hs2, es, hp, List.map_append] <;> rfl
        · rw [List.length_append, ← hLM] <;> rfl
        · rw [upd_same, List.map_append] <;> rfl
        · rcases List.mem_append.mp hd with z | z
          · have := s9 _ _ (PP8.at_ d z)
            exact upd_get (ne_of this hls9 (by intro z; cases z)) this
          · rw [List.mem_singleton.mp z]
            exact upd_get n9 upd_same
      · have b1 : w0 = "helper" := by
          unfold kinds at ck
          rcases List.mem_cons.mp ck with z | z
          · exact absurd (congrArg V.str z) b
          · exact List.mem_singleton.mp z
        subst b1
        have es := step_h (s := (L.map (·.2), M.map (·.2))) ews c0
        walk_at "go"
        refine ⟨fun p hp t9 H9 ht9 hat9 s9 => ?_, fun hn d H' hd hd1 s9 => q3 i ⟨hlt, ⟨_, erd⟩, by rw [hs2, es, hn] <;> rfl⟩ d H' (same_none' s08 hd) hd1 (s08.trans s9)⟩
        have hlF9 := s9 _ _ hlF8
        have tk9 : TK H9 (upd H9 Pf (.lst ((M.map fun e => V.ref e.1) ++ [.ref t9]))) := TK.lst hlF9
        walk_at "go"
        refine ⟨small_lt (by rw [List.length_map]; omega), wait ⟨⟨_, _, _, rfl⟩, upd_get nL2 (s9 _ _ hL8), fun y o ey => upd_get (ne_of_none ey hPf0) (s9 _ _ (s08 _ _ ey)), L, M ++ [(t9, p)], ?_, ?_, (PP8.same s9).keep (fun o eo => upd_get nPF eo) (fun t ys et => (tk9 t).1 ys et), ⟨?_, fun d hd => ?_⟩⟩⟩
        · rw [hs2, es, hp, List.map_append] <;> rfl
        · rw [List.length_append, ← hLM] <;> rfl
        · rw [upd_same, List.map_append] <;> rfl
        · rcases List.mem_append.mp hd with z | z
          · exact ((HF8.at_ d z).tk (TK.same s9)).tk tk9
          · rw [List.mem_singleton.mp z]
            exact hat9.tk tk9
    · rintro σ H5 ⟨⟨u4, u5, u6, rfl⟩, hL5, s5, L, M, erd, hLM, PP5, HF5⟩
      rw [List.length_map, List.take_length] at erd
      have rd := rd_sizes erd hl ok
      have szP := rd.szP
      have szH := rd.szH
      walk_at "go"
      intro x dx nx ndx nex
      have s7 : Same H5 (upd (upd H5 dx (.own x)) x (.ins a.c_Pacts dx [])) := fun y o e => upd_get (ne_of_none e nx) (upd_get (ne_of_none e ndx) e)
      refine ⟨x, dx, Pp, Pf, L, M, rfl, upd_same, PP5.same s7, HF5.same s7, szP, szH, fun okP okH kp kd H8 hkp hkd PH8 k8 => ⟨rfl, ?_⟩, fun z fb nz d H8 hd hd8 k8 => ?_⟩
      · exact q1 _ _ erd okP okH x kp kd L M H8 rfl rfl PH8 (fun y o e => k8 y o (ne_of_none (s5 _ _ e) nx) (s7 _ _ (s5 _ _ e)))
      · exact q2 _ _ z erd fb nz d H8 (same_none' s5 (same_none' s7 hd)) hd8 (fun y o e => k8 y o (ne_of_none (s5 _ _ e) nx) (s7 _ _ (s5 _ _ e)))
end
end Pf
set_option Elab.async false
set_option linter.all false
set_option maxRecDepth 100000
set_option maxHeartbeats 4000000
namespace Pf
open PySem L2
local macro_rules | `(tactic| walk_at "nz") => `(tactic| (show (_ : Int) ≠ 0; omega))
local macro_rules | `(tactic| walk_at "ne") => `(tactic| first | assumption | (apply Ne.symm; assumption))
local macro_rules | `(tactic| walk_at "hp") => `(tactic| first | assumption | exact upd_same | (refine upd_get ?_ ?_; walk_at "ne"; walk_at "hp"))
local macro_rules | `(tactic| walk_at "sd") => `(tactic| first
  | (with_reducible show (_ : Int) < _; omega)
  | (with_reducible show (_ : Int) ≤ _; omega)
  | (with_reducible show (_ : Nat) < _; omega)
  | (with_reducible show (_ : Nat) ≤ _; omega)
  | rfl
  | assumption
  | exact kV_int _
  | exact kV_str _
  | (show (_ : Int) ≠ 0; omega)
  | exact SqL.of (by walk_at "hp")
  | exact ⟨_, SqL.of (by walk_at "hp")⟩
  | exact ⟨_, SqT.of (by walk_at "hp")⟩
  | exact ⟨_, (by assumption)⟩
  | exact SqT.of (by walk_at "hp")
  | exact Rd.of (by walk_at "hp")
  | exact Or.inl (SqL.of (by walk_at "hp"))
  | exact Or.inr (SqT.of (by walk_at "hp"))
  | exact Or.inr (by assumption)
  | (walk_at "hp")
  | (exact Or.inl ⟨rfl, _, SqL.of (by walk_at "hp")⟩)
  | (exact Or.inl ⟨by omega, by omega⟩)
  | (exact Or.inr ⟨by omega, by omega⟩)
  | (refine ⟨?_, ?_, ?_⟩ <;> omega)
  | omega
  | (exact small_le (by first | omega | (simp only [List.length_cons, List.length_nil]; omega)))
  | (exact small_lt (by first | omega | (simp only [List.length_cons, List.length_nil]; omega)))
  | exact Nat.le_of_ble_eq_true rfl
  | exact ⟨_, rfl⟩
  | decide)
local macro_rules | `(tactic| walk_at "st") => `(tactic| first
  | with_reducible refine sq_seq ?_
  | apply Exists.intro
  | (refine And.intro ?_ ?_; (walk_at "sd")))
local macro_rules | `(tactic| walk_at "go") => `(tactic| repeat (walk_at "st"))
section
variable {P : Program} {w : World} {K : PySem.W.Frag} {mg : Str → Option Value} {base : Heap} {a : Ad}
theorem joinL_app {S : List Nat} : ∀ {xs ys : List (List Nat)}, xs ≠ [] → ys ≠ [] → TL.joinL S (xs ++ ys) = TL.joinL S xs ++ (S ++ TL.joinL S ys)
  | [], _, h, _ => absurd rfl h
  | [x], ys, _, h => by
    show TL.joinL S (x :: ys) = _
    rw [joinL_cons h] <;> rfl
  | x :: y :: r, ys, _, h => by
    have ih := joinL_app (S := S) (xs := y :: r) (by simp) h
    rw [List.cons_append, joinL_cons (by simp), ih, joinL_cons (p := x) (X := y :: r) (by simp), List.append_assoc, List.append_assoc]
theorem join_app {xs ys : List Str} (h1 : xs ≠ []) (h2 : ys ≠ []) : Txt.join " " (xs ++ ys) = Txt.join " " xs ++ (" " : Str) ++ Txt.join " " ys := by
  refine tl_inj ?_
  rw [TL.tl_append, TL.tl_append, sepB.jl, sepB.jl, sepB.jl, List.map_append, joinL_app (by simpa using h1) (by simpa using h2), sepB.e, List.append_assoc]
theorem join_one (w : Str) : Txt.join " " [w] = w := by
  refine tl_inj ?_
  rw [sepB.jl] <;> rfl
theorem line_start (n s : Str) : ("helper " : Str) ++ n ++ (" " : Str) ++ s = Txt.join " " (["helper", n, s] : List Str) := by
  refine tl_inj ?_
  rw [sepB.jl, TL.tl_append, TL.tl_append, TL.tl_append]
  show TL.tl ("helper " : Str) ++ TL.tl n ++ TL.tl (" " : Str) ++ TL.tl s = TL.tl ("helper" : Str) ++ ([32] ++ (TL.tl n ++ ([32] ++ TL.tl s)))
  have a1 : TL.tl ("helper " : Str) = TL.tl ("helper" : Str) ++ [32] := by decide +kernel
  rw [a1, sepB.e]
  simp only [List.append_assoc]
theorem gives_app (x : Str) : x ++ (" gives" : Str) = x ++ (" " : Str) ++ ("gives" : Str) := by
  refine tl_inj ?_
  rw [TL.tl_append, TL.tl_append, TL.tl_append]
  have a1 : TL.tl (" gives" : Str) = TL.tl (" " : Str) ++ TL.tl ("gives" : Str) := by decide +kernel
  rw [a1, List.append_assoc]
theorem throws_app {zs : List Str} (h : zs ≠ []) (x : Str) : x ++ (" throws " : Str) ++ Txt.join " " zs = x ++ (" " : Str) ++ Txt.join " " ((["throws"] : List Str) ++ zs) := by
  rw [join_app (by simp) h, join_one]
  refine tl_inj ?_
  rw [TL.tl_append, TL.tl_append, TL.tl_append, TL.tl_append, TL.tl_append, TL.tl_append]
  have a1 : TL.tl (" throws " : Str) = TL.tl (" " : Str) ++ (TL.tl ("throws" : Str) ++ TL.tl (" " : Str)) := by decide +kernel
  rw [a1]
  simp only [List.append_assoc]
theorem short_len {ws : List Str} {n : Nat} (h : ∀ w ∈ ws, w.length ≤ 8) (hn : ws.length ≤ n) : (Txt.join " " ws).length ≤ n * 9 := by
  have h1 := join_len (a := " ") h
  have e : (" " : Str).length = 1 := by decide +kernel
  rw [e] at h1
  have : ws.length * 9 ≤ n * 9 := Nat.mul_le_mul_right 9 hn
  omega
def spLLine (K : PySem.W.Frag) : Sp := fun vs H Q _ => ∃ (t : Addr) (h : Hl), vs = [.ref t] ∧ HlAt K H (t, h) ∧ LnH h ∧ Q (.str (hline h)) H
theorem ok__law_line (T : Txt K mg a) : FnOk P w K mg base CX0 1 a.f__law_line a.d__law_line ["_law_helper"] (spLLine K) := by
  have cl_Pacts := T.cl_Pacts
  have na_Pacts_kept_pairs := T.na_Pacts_kept_pairs
  have na_Pacts_kept_pacts := T.na_Pacts_kept_pacts
  refine T.F__law_line.ok sc__law_line (fun vs H Q E h => ?_) (fun cdv A outer s H vs Q E hr h => ?_)
  · obtain ⟨t, h, rfl, _⟩ := h
    rfl
  · obtain ⟨t, h, rfl, HT, LN, q⟩ := h
    obtain ⟨tk, th, ht, htk, hth⟩ := HT
    have ht : H t = some (.tup [.str h.name, .int h.side, .ref tk, .bl h.gives, .ref th]) := ht
    have htk : SqT K H tk (h.takes.map V.str) := htk
    have hth : SqT K H th (h.throws.map V.str) := hth
    have hb : h.side.natAbs.log2 < 1920 := by rcases LN.wf.sd with e | e <;> rw [e] <;> decide
    have o1 := LN.tl
    have o2 := LN.hl
    have n8 := LN.wf.nm.hi
    have s1 := side_len LN.wf.sd
    have w1 : ("helper " : Str).length = 7 := by decide +kernel
    have w2 : (" " : Str).length = 1 := by decide +kernel
    have w3 : (" gives" : Str).length = 6 := by decide +kernel
    have w4 : (" throws " : Str).length = 8 := by decide +kernel
    have z1 : ("helper " : Str).length + h.name.length ≤ sizeLine := small_le (by omega)
    have z2 : (("helper " : Str) ++ h.name).length + (" " : Str).length ≤ sizeLine := small_le (by rw [Str.length_append]; omega)
    have z3 : (("helper " : Str) ++ h.name ++ (" " : Str)).length + (Str.ofString (toString h.side)).length ≤ sizeLine := small_le (by rw [Str.length_append, Str.length_append]; omega)
    have sh := LN.short
    have shp : ∀ i, ∀ w ∈ (["helper", h.name, Str.ofString (toString h.side)] : List Str) ++ h.takes.take i, w.length ≤ 8 := fun i w hw => sh w (by
      unfold hwords
      rcases List.mem_append.mp hw with z | z
      · exact List.mem_append.mpr (.inl (List.mem_append.mpr (.inl z)))
      · exact List.mem_append.mpr (.inl (List.mem_append.mpr (.inr (List.mem_of_mem_take z)))))
    refine ⟨_, (pss_cons (ps_asg (pv 0) (pg_tup rfl (pgs_cons (pg_name (i := 1) sc__law_line.nd rfl (Or.inl rfl)) (pgs_cons (pg_name (i := 2) sc__law_line.nd rfl (Or.inl rfl)) (pgs_cons (pg_name (i := 3) sc__law_line.nd rfl (Or.inl rfl)) (pgs_cons (pg_name (i := 4) sc__law_line.nd rfl (Or.inl rfl)) (pgs_cons (pg_name (i := 5) sc__law_line.nd rfl (Or.inl rfl)) pgs_nil)))))))
      (pss_cons (ps_set (i := 6) sc__law_line.nd rfl (Or.inl rfl) (pe_op op_add_str (pe_op op_add_str (pe_op op_add_str pe_str (pv 1)) pe_str) (pe_callTy call_str_int (by rfl) T.z_str (by decide +kernel) (pa_cons (pv 2) pa_nil))))
      (pss_cons (ps_stop (ps_for PassesOwn.never rfl (pi_wait (pi_tup (pv 3))) (pg_name (i := 7) sc__law_line.nd rfl (Or.inl rfl)) (pss_one (ps_set (i := 6) sc__law_line.nd rfl (Or.inl rfl) (pe_op op_add_str (pe_op op_add_str (pv 6) pe_str) (pv 7))))))
      (pss_mid (ps_if (pt_val (pv 4)) (pss_one (ps_set (i := 6) sc__law_line.nd rfl (Or.inl rfl) (pe_op op_add_str (pv 6) pe_str))) pss_nil)
      (pss_mid (ps_if (pt_cmpR op_gt (pe_callB call_lenK (by rfl) T.z_len PySem.boot_len (pa_cons (pv 5) pa_nil)) pe_int (nomark _)) (pss_one (ps_set (i := 6) sc__law_line.nd rfl (Or.inl rfl) (pe_op op_add_str (pe_op op_add_str (pv 6) pe_str) (pe_join pe_str (pv 5))))) pss_nil)
      (pss_one (ps_ret (pv 6)))))))), ?_⟩
    walk_at "go"
    rw [line_start]
    refine sq_seq (stop_in ?_)
    walk_at "go"
    refine wait ?_
    refine forT (K := K) (a := tk) (xs := h.takes.map V.str) (fun i σ H' => H' = H ∧ ∃ u7, σ = [some (.ref t), some (.str h.name), some (.int h.side), some (.ref tk), some (.bl h.gives), some (.ref th), some (.str (Txt.join " " ((["helper", h.name, Str.ofString (toString h.side)] : List Str) ++ h.takes.take i))), u7]) ?_ ?_ ?_ ?_
    · exact ⟨rfl, none, by rw [List.take_zero, List.append_nil] <;> rfl⟩
    · rintro i σ H' _ ⟨rfl, _⟩
      exact htk
    · rintro i v σ H' hi ⟨rfl, u7, rfl⟩
      rw [List.getElem?_map] at hi
      obtain ⟨w, hw, rfl⟩ := Option.map_eq_some_iff.mp hi
      have hwl := hows_len w (LN.wf.tk w (List.mem_of_getElem? hw))
      have jl := short_len (shp i) (n := 6) (by rw [List.length_append, List.length_take]; show 3 + _ ≤ 6; omega)
      have z4 : (Txt.join " " ((["helper", h.name, Str.ofString (toString h.side)] : List Str) ++ h.takes.take i)).length + (" " : Str).length ≤ sizeLine := small_le (by omega)
      have z5 : (Txt.join " " ((["helper", h.name, Str.ofString (toString h.side)] : List Str) ++ h.takes.take i) ++ (" " : Str)).length + w.length ≤ sizeLine := small_le (by rw [Str.length_append]; omega)
      walk_at "go"
      refine wait ⟨rfl, some (.str w), ?_⟩
      rw [List.take_add_one, hw, Option.toList_some, ← List.append_assoc, join_app (ys := [w]) (by simp) (by simp), join_one] <;> rfl
    rintro σ H' ⟨rfl, u7, rfl⟩
    rw [List.length_map, List.take_length]
    have jl := short_len (shp h.takes.length) (n := 6) (by rw [List.length_append, List.length_take]; show 3 + _ ≤ 6; omega)
    rw [List.take_length] at jl
    obtain ⟨pre, epre⟩ : ∃ pre : List Str, pre = (["helper", h.name, Str.ofString (toString h.side)] : List Str) ++ h.takes := ⟨_, rfl⟩
    rw [← epre] at jl ⊢
    have pne : pre ≠ [] := by rw [epre]; simp
    refine mid_of (fun σ H1 => H1 = H' ∧ σ = [some (.ref t), some (.str h.name), some (.int h.side), some (.ref tk), some (.bl h.gives), some (.ref th), some (.str (Txt.join " " (pre ++ (if h.gives = true then (["gives"] : List Str) else [])))), u7]) ?_ ?_
    · cases hg : h.gives with
      | true =>
        have z6 : (Txt.join " " pre).length + (" gives" : Str).length ≤ sizeLine := small_le (by omega)
        walk_at "go"
        refine wait ⟨rfl, ?_⟩
        rw [gives_app, if_pos rfl, join_app (ys := (["gives"] : List Str)) pne (by simp), join_one] <;> rfl
      | false =>
        walk_at "go"
        refine wait ⟨rfl, ?_⟩
        rw [if_neg (by decide), List.append_nil]
    rintro σ H1 ⟨rfl, rfl⟩
    obtain ⟨pre2, epre2⟩ : ∃ pre2 : List Str, pre2 = pre ++ (if h.gives = true then (["gives"] : List Str) else []) := ⟨_, rfl⟩
    rw [← epre2]
    have p2ne : pre2 ≠ [] := by rw [epre2]; simp [pne]
    have ehw : hwords h = pre2 ++ (if 0 < h.throws.length then (["throws"] : List Str) ++ h.throws else []) := by
      unfold hwords htail
      rw [epre2, epre]
      simp only [List.append_assoc]
    have jl2 : (Txt.join " " pre2).length ≤ 108 := short_len (n := 12) (fun w hw => sh w (by rw [ehw]; exact List.mem_append.mpr (.inl hw))) (by have := LN.many; rw [ehw, List.length_append] at this; omega)
    have lth : (h.throws.map V.str).length = h.throws.length := List.length_map _
    refine mid_of (fun σ H2 => H2 = H1 ∧ ∃ u7, σ = [some (.ref t), some (.str h.name), some (.int h.side), some (.ref tk), some (.bl h.gives), some (.ref th), some (.str (hline h)), u7]) ?_ ?_
    · walk_at "go"
      refine ifD (fun b => ?_) (fun b => ?_)
      · have b1 : 0 < h.throws.length := by omega
        have tne : h.throws ≠ [] := fun z => by rw [z] at b1; exact absurd b1 (by decide)
        have jz := short_len (ws := h.throws) (n := 4) (fun w hw => (LN.wf.th w hw).hi) o2
        have z7 : (Txt.join " " pre2).length + (" throws " : Str).length ≤ sizeLine := small_le (by omega)
        have z8 : (Txt.join " " pre2 ++ (" throws " : Str)).length + (Txt.join " " h.throws).length ≤ sizeLine := small_le (by rw [Str.length_append]; omega)
        have z9 : (h.throws.map (·.length)).sum + h.throws.length * (" " : Str).length ≤ 16777216 := by
          have := sum_le0 (ws := h.throws) (k := 8) fun v hv => (LN.wf.th v hv).hi
          rw [w2]
          omega
        walk_at "go"
        refine wait ⟨rfl, u7, ?_⟩
        rw [throws_app tne, ← join_app (ys := (["throws"] : List Str) ++ h.throws) p2ne (by simp)]
        unfold hline
        rw [ehw, if_pos b1] <;> rfl
      · have b1 : ¬ 0 < h.throws.length := by omega
        refine wait ⟨rfl, u7, ?_⟩
        unfold hline
        rw [ehw, if_neg b1, List.append_nil]
    rintro σ H2 ⟨rfl, u7', rfl⟩
    walk_at "go"
    exact q
theorem pline_l {p : Pr} : (("word " : Str) ++ p.near ++ (" " : Str) ++ p.far) ++ (if p.laden = true then (" laden" : Str) else "") = pline p := by
  obtain ⟨n, f, l⟩ := p
  have e : (Str.empty ++ ("word " : Str)) = ("word " : Str) := by decide +kernel
  cases l with
  | true =>
    rw [← pline_t, e] <;> rfl
  | false =>
    rw [← pline_f, e] <;> rfl
theorem laden_at (l : Bool) : atI [V.str "", .str " laden"] (if l = true then 1 else 0) = some (.str (if l = true then (" laden" : Str) else "")) := by
  cases l <;> rfl
def spText (K : PySem.W.Frag) : Sp := fun vs H Q _ => ∃ (D F : Addr) (L : List (Addr × Pr)) (M : List (Addr × Hl)), vs = [.ref D, .ref F] ∧ PairsAt H D L ∧ HelpersAt K H F M ∧ Good (L.map (·.2)) ∧ GoodH (L.map (·.2)) (M.map (·.2)) ∧
  ∀ H', Same H H' → Q (.str (textOf (L.map (·.2)) (M.map (·.2)))) H'
theorem ok__law_text (T : Txt K mg a) : FnOk P w K mg base CX0 2 a.f__law_text a.d__law_text ["_law_pairs_here", "_law_helpers_here"] (spText K) := by
  have G__law_line := ok__law_line (P := P) (w := w) (base := base) T
  have cl_Pacts := T.cl_Pacts
  have na_Pacts_kept_pairs := T.na_Pacts_kept_pairs
  have na_Pacts_kept_pacts := T.na_Pacts_kept_pacts
  refine T.F__law_text.ok sc__law_text (fun vs H Q E h => ?_) (fun cdv A outer s H vs Q E hr h => ?_)
  · obtain ⟨D, F, L, M, rfl, _⟩ := h
    rfl
  · obtain ⟨D, F, L, M, rfl, PD, HF, G, GH, q⟩ := h
    have hls := PD.ls
    have gl := G.len
    have ghl := GH.len
    rw [List.length_map] at gl ghl
    have w1 : ("word " : Str).length = 5 := by decide +kernel
    have w2 : (" " : Str).length = 1 := by decide +kernel
    refine ⟨_, (pss_cons (ps_setLc (i := 2) (own := [("_law_near", 3), ("_law_far", 4), ("_law_laden", 5)]) (g := gTup K 3 (gCons (gName 3) (gCons (gName 4) (gCons (gName 5) gNil)))) (tt := tYes) (te := (tOp _ _ (tOp (rIxL K) _ _))) rfl sc__law_text.nd rfl rfl (sw_true rfl rfl rfl (by decide +kernel)) (pi_list (pv 0)) (blkOk_by (own := [("_law_near", 3), ("_law_far", 4), ("_law_laden", 5)]) (N := n__law_text) (sc := defScope s__law_text) (by decide +kernel)) (fun _ _ _ _ _ => (pg_tup rfl (pgs_cons (pg_name (i := 3) sc__law_text.nd rfl (Or.inl rfl)) (pgs_cons (pg_name (i := 4) sc__law_text.nd rfl (Or.inl rfl)) (pgs_cons (pg_name (i := 5) sc__law_text.nd rfl (Or.inl rfl)) pgs_nil))))) (fun _ _ _ _ _ => pts_nil) (fun _ _ _ _ _ => (pe_op op_add_str (pe_op op_add_str (pe_op op_add_str (pe_op op_add_str pe_str (pv 3)) pe_str) (pv 4)) (pe_ix ix_list (pe_lst (pa_cons pe_str (pa_cons pe_str pa_nil))) (pe_callTy call_int1 (by rfl) T.z_int (by decide +kernel) (pa_cons (pv 5) pa_nil)) (fun _ _ => rfl)))))
      (pss_one (ps_ret (pe_join pe_str (pe_op op_cat (pv 2) (pe_lc (own := [("_law_helper", 6)]) (g := gName 6) (tt := tYes) rfl sc__law_text.nd (pi_list (pv 1)) (blkOk_by (own := [("_law_helper", 6)]) (N := n__law_text) (sc := defScope s__law_text) (by decide +kernel)) (fun _ _ _ _ _ => (pg_name (i := 6) sc__law_text.nd rfl (Or.inl rfl))) (fun _ _ _ _ _ => pts_nil) (fun _ _ _ _ _ => (pe_call G__law_line (hr.mono (by decide)) rfl T.m__law_line T.F__law_line.kp T.b__law_line .nil pass0 (pa_cons (pv 6) pa_nil))))))))), ?_⟩
    walk_at "go"
    intro Sh hSh
    refine lcL (K := K) (a := D) (xs := L.map fun e => V.ref e.1) (fun i H' => H' Sh = some (.lst (((L.take i).map fun e => pline e.2).map V.str)) ∧ Same H H') ?_ ?_ ?_ ?_
    · exact ⟨upd_same, Same.upd_new hSh⟩
    · exact fun i H' _ h => SqL.of (h.2 _ _ hls)
    · rintro i y H1 hi ⟨g1, g2⟩
      rw [List.getElem?_map] at hi
      obtain ⟨e, he, rfl⟩ := Option.map_eq_some_iff.mp hi
      have hem := List.mem_of_getElem? he
      have hgm : e.2 ∈ L.map (·.2) := List.mem_map.mpr ⟨e, hem, rfl⟩
      have n1 := (G.kn _ hgm).hi
      have n2 := (G.kf _ hgm).hi
      have hp : H1 e.1 = some (.tup [.str e.2.near, .str e.2.far, .bl e.2.laden]) := g2 _ _ (PD.at_ e hem)
      have hlt := (List.getElem?_eq_some_iff.mp he).1
      have z1 : ("word " : Str).length + e.2.near.length ≤ sizeLine := small_le (by omega)
      have z2 : (("word " : Str) ++ e.2.near).length + (" " : Str).length ≤ sizeLine := small_le (by rw [Str.length_append]; omega)
      have z3 : (("word " : Str) ++ e.2.near ++ (" " : Str)).length + e.2.far.length ≤ sizeLine := small_le (by rw [Str.length_append, Str.length_append]; omega)
      walk_at "go"
      intro pa hpa
      have sa : Same H1 (upd H1 pa (.lst [.str "", .str " laden"])) := Same.upd_new hpa
      have g1a := sa _ _ g1
      have hla := laden_at e.2.laden
      walk_at "go"
      refine .inr ⟨_, rfl, ?_⟩
      have z4 : (("word " : Str) ++ e.2.near ++ (" " : Str) ++ e.2.far).length + (if e.2.laden = true then (" laden" : Str) else "").length ≤ sizeLine := small_le (by
        have : (if e.2.laden = true then (" laden" : Str) else "").length ≤ 6 := by split <;> decide +kernel
        rw [Str.length_append, Str.length_append, Str.length_append]
        omega)
      walk_at "go"
      rw [pline_l]
      refine ⟨small_lt (by rw [List.length_map, List.length_map, List.length_take]; omega), wait ⟨?_, fun x o e => upd_get (ne_of_none e hSh) (sa _ _ (g2 x o e))⟩⟩
      rw [upd_same, List.take_add_one, he, List.map_append, List.map_append] <;> rfl
    rintro H1 ⟨g1, g2⟩
    rw [List.length_map, List.take_length] at g1
    have HF1 := HF.same g2
    have hlF1 := HF1.ls
    walk_at "go"
    intro Z hZ
    refine lcL (K := K) (a := F) (xs := M.map fun e => V.ref e.1) (fun i H' => H' Z = some (.lst (((M.take i).map fun e => hline e.2).map V.str)) ∧ Same H1 H') ?_ ?_ ?_ ?_
    · exact ⟨upd_same, Same.upd_new hZ⟩
    · exact fun i H' _ h => SqL.of (h.2 _ _ hlF1)
    · rintro i y H2 hi ⟨f1, f2⟩
      rw [List.getElem?_map] at hi
      obtain ⟨e, he, rfl⟩ := Option.map_eq_some_iff.mp hi
      have hem := List.mem_of_getElem? he
      have hat : HlAt K H2 (e.1, e.2) := (HF1.at_ e hem).tk (TK.same f2)
      have ln := GH.ln G e.2 (List.mem_map.mpr ⟨e, hem, rfl⟩)
      have hlt := (List.getElem?_eq_some_iff.mp he).1
      refine ⟨rfl, ?_⟩
      walk_at "go"
      refine ⟨small_lt (by rw [List.length_map, List.length_map, List.length_take]; omega), wait ⟨?_, fun x o e => upd_get (ne_of_none e hZ) (f2 x o e)⟩⟩
      rw [upd_same, List.take_add_one, he, List.map_append, List.map_append] <;> rfl
    rintro H2 ⟨f1, f2⟩
    rw [List.length_map, List.take_length] at f1
    have g12 := f2 _ _ g1
    have hz2 : ((L.map fun e => pline e.2).map V.str).length + ((M.map fun e => hline e.2).map V.str).length ≤ sizeLine := small_le (by rw [List.length_map, List.length_map, List.length_map, List.length_map]; omega)
    walk_at "go"
    intro D3 hD3
    have h3 : upd H2 D3 (.lst ((L.map fun e => pline e.2).map V.str ++ (M.map fun e => hline e.2).map V.str)) D3 = some (.lst (((L.map fun e => pline e.2) ++ M.map fun e => hline e.2).map V.str)) := by rw [upd_same, List.map_append]
    have et : textOf (L.map (·.2)) (M.map (·.2)) = Txt.join "\n" ((L.map fun e => pline e.2) ++ M.map fun e => hline e.2) := by
      unfold textOf
      rw [List.map_map, List.map_map] <;> rfl
    have hsum : (((L.map fun e => pline e.2) ++ M.map fun e => hline e.2).map (·.length)).sum + ((L.map fun e => pline e.2) ++ M.map fun e => hline e.2).length * ("\n" : Str).length ≤ 16777216 := by
      have h1 := sum_le0 (k := 1000) (ws := (L.map fun e => pline e.2) ++ M.map fun e => hline e.2) fun w hw => by
        rcases List.mem_append.mp hw with z | z
        · obtain ⟨e, he, rfl⟩ := List.mem_map.mp z
          have hgm : e.2 ∈ L.map (·.2) := List.mem_map.mpr ⟨e, he, rfl⟩
          exact Nat.le_trans (pline_len (G.kn _ hgm) (G.kf _ hgm)) (by decide)
        · obtain ⟨e, he, rfl⟩ := List.mem_map.mp z
          exact Nat.le_trans (GH.ln G e.2 (List.mem_map.mpr ⟨e, he, rfl⟩)).len (by decide)
      have e1 : ("\n" : Str).length = 1 := by decide +kernel
      rw [e1]
      rw [List.length_append, List.length_map, List.length_map] at h1 ⊢
      omega
    walk_at "go"
    rw [← et]
    exact q _ ((g2.trans f2).trans (Same.upd_new hD3))
end
end Pf
set_option Elab.async false
set_option linter.all false
set_option maxRecDepth 100000
set_option maxHeartbeats 4000000
namespace Pf
open PySem L2
local macro_rules | `(tactic| walk_at "nz") => `(tactic| (show (_ : Int) ≠ 0; omega))
local macro_rules | `(tactic| walk_at "ne") => `(tactic| first | assumption | (apply Ne.symm; assumption))
local macro_rules | `(tactic| walk_at "hp") => `(tactic| first | assumption | exact upd_same | (refine upd_get ?_ ?_; walk_at "ne"; walk_at "hp"))
local macro_rules | `(tactic| walk_at "sd") => `(tactic| first
  | (with_reducible show (_ : Int) < _; omega)
  | (with_reducible show (_ : Int) ≤ _; omega)
  | (with_reducible show (_ : Nat) < _; omega)
  | (with_reducible show (_ : Nat) ≤ _; omega)
  | rfl
  | assumption
  | exact kV_int _
  | exact kV_str _
  | (show (_ : Int) ≠ 0; omega)
  | exact SqL.of (by walk_at "hp")
  | exact ⟨_, SqL.of (by walk_at "hp")⟩
  | exact ⟨_, SqT.of (by walk_at "hp")⟩
  | exact ⟨_, (by assumption)⟩
  | exact SqT.of (by walk_at "hp")
  | exact Rd.of (by walk_at "hp")
  | exact Or.inl (SqL.of (by walk_at "hp"))
  | exact Or.inr (SqT.of (by walk_at "hp"))
  | exact Or.inr (by assumption)
  | (walk_at "hp")
  | (exact Or.inl ⟨rfl, _, SqL.of (by walk_at "hp")⟩)
  | (exact Or.inl ⟨by omega, by omega⟩)
  | (exact Or.inr ⟨by omega, by omega⟩)
  | (refine ⟨?_, ?_, ?_⟩ <;> omega)
  | omega
  | (exact small_le (by first | omega | (simp only [List.length_cons, List.length_nil]; omega)))
  | (exact small_lt (by first | omega | (simp only [List.length_cons, List.length_nil]; omega)))
  | exact Nat.le_of_ble_eq_true rfl
  | exact ⟨_, rfl⟩
  | decide)
local macro_rules | `(tactic| walk_at "st") => `(tactic| first
  | with_reducible refine sq_seq ?_
  | apply Exists.intro
  | (refine And.intro ?_ ?_; (walk_at "sd")))
local macro_rules | `(tactic| walk_at "go") => `(tactic| repeat (walk_at "st"))
section
variable {P : Program} {w : World} {K : PySem.W.Frag} {mg : Str → Option Value} {base : Heap} {a : Ad}
theorem cutV_two (xs : List V) (p r : Nat) : cutV xs (some (p : Int)) (some (r : Int)) = (xs.drop (min p xs.length)).take (min r xs.length - min p xs.length) := by
  unfold cutV
  rw [HT.sIx_nat, HT.sIx_nat]
def spLRdP : Sp := fun vs H Q _ => ∃ (W : Addr) (ws : List Str), vs = [.ref W] ∧ H W = some (.lst (ws.map V.str)) ∧
  (∀ p, rdP ws = some p → ∀ t, H t = none → Q (.ref t) (upd H t (.tup [.str p.near, .str p.far, .bl p.laden]))) ∧ (rdP ws = none → Q .non H)
theorem ok__law_pair_read (T : Txt K mg a) : FnOk P w K mg base CX0 1 a.f__law_pair_read a.d__law_pair_read ["_law_words"] spLRdP := by
  refine T.F__law_pair_read.ok sc__law_pair_read (fun vs H Q E h => ?_) (fun cdv A outer s H vs Q E hr h => ?_)
  · obtain ⟨W, ws, rfl, _⟩ := h
    rfl
  · obtain ⟨W, ws, rfl, hW, q1, q2⟩ := h
    have lw : (ws.map V.str).length = ws.length := List.length_map _
    refine ⟨_, (pss_cons (ps_if (pt_cmpR op_eq (pe_callB call_lenK (by rfl) T.z_len PySem.boot_len (pa_cons (pv 0) pa_nil)) pe_int (nomark _)) (pss_one (ps_ret (pe_tup (pa_cons (pe_ix ix_list (pv 0) pe_int (fun _ _ => rfl)) (pa_cons (pe_ix ix_list (pv 0) pe_int (fun _ _ => rfl)) (pa_cons pe_bl pa_nil)))))) pss_nil)
      (pss_cons (ps_if (PW.pt (pw_and (pt_cmpR op_eq (pe_callB call_lenK (by rfl) T.z_len PySem.boot_len (pa_cons (pv 0) pa_nil)) pe_int (nomark _)) (pw_and1 (pt_cmpR op_eq (pe_ix ix_list (pv 0) pe_int (fun _ _ => rfl)) pe_str (nomark _))))) (pss_one (ps_ret (pe_tup (pa_cons (pe_ix ix_list (pv 0) pe_int (fun _ _ => rfl)) (pa_cons (pe_ix ix_list (pv 0) pe_int (fun _ _ => rfl)) (pa_cons pe_bl pa_nil)))))) pss_nil)
      (pss_one (ps_ret pe_non)))), ?_⟩
    by_cases h3 : ws.length = 3
    · obtain ⟨x, p, r, rfl⟩ := len3 h3
      have a1 : atI ([x, p, r].map V.str) 1 = some (.str p) := rfl
      have a2 : atI ([x, p, r].map V.str) 2 = some (.str r) := rfl
      walk_at "go"
      exact q1 ⟨p, r, false⟩ rfl
    · walk_at "go"
      refine ifNo (fun z => h3 (by have := V.int.inj z; omega)) ?_
      by_cases h4 : ws.length = 4
      · obtain ⟨x, p, r, l, rfl⟩ := len4 h4
        have a1 : atI ([x, p, r, l].map V.str) 1 = some (.str p) := rfl
        have a2 : atI ([x, p, r, l].map V.str) 2 = some (.str r) := rfl
        have a3 : atI ([x, p, r, l].map V.str) 3 = some (.str l) := rfl
        walk_at "go"
        refine ifD (fun b => ?_) (fun b => ?_)
        · have b1 : l = "laden" := V.str.inj b
          walk_at "go"
          exact q1 ⟨p, r, true⟩ (by show (if l = "laden" then some (⟨p, r, true⟩ : Pr) else none) = _; rw [if_pos b1])
        · have b1 : ¬ l = "laden" := fun z => b (congrArg V.str z)
          walk_at "go"
          exact q2 (by show (if l = "laden" then some (⟨p, r, true⟩ : Pr) else none) = _; rw [if_neg b1])
      · walk_at "go"
        refine ifNo (fun z => h4 (by have := V.int.inj z; omega)) ?_
        walk_at "go"
        exact q2 (rdP_no h3 h4)
theorem eqv_gives (q : List Str) : PyData.eqv (.list ((q.take 1).map PyData.str)) (.list ((["gives"] : List Str).map PyData.str)) = givR q := by
  cases q with
  | nil => rfl
  | cons w q' =>
    show ((w == ("gives" : Str)) && true) = decide (some w = some ("gives" : Str))
    by_cases c : w = "gives"
    · rw [c, decide_eq_true rfl]; simp
    · rw [decide_eq_false (fun z => c (Option.some.inj z))]
      simp [c]
def spLRdH (K : PySem.W.Frag) : Sp := fun vs H Q _ => ∃ (W : Addr) (ws : List Str), vs = [.ref W] ∧ H W = some (.lst (ws.map V.str)) ∧ ws.length ≤ 10000 ∧ (∀ w ∈ ws, PyData.strOk w = true) ∧
  (∀ h, rdH ws = some h → ∀ t H', H t = none → HlAt K H' (t, h) → Same H H' → Q (.ref t) H') ∧ (rdH ws = none → ∀ H', Same H H' → Q .non H')
theorem ok__law_helper_read (T : Txt K mg a) : FnOk P w K mg base CX0 1 a.f__law_helper_read a.d__law_helper_read ["_law_words"] (spLRdH K) := by
  refine T.F__law_helper_read.ok sc__law_helper_read (fun vs H Q E h => ?_) (fun cdv A outer s H vs Q E hr h => ?_)
  · obtain ⟨W, ws, rfl, _⟩ := h
    rfl
  · obtain ⟨W, ws, rfl, hW, hlw, okw, q1, q2⟩ := h
    have lw : (ws.map V.str).length = ws.length := List.length_map _
    refine ⟨_, (pss_cons (ps_if (pt_mid (PW.pt (pw_or (pt_cmpR op_lt (pe_callB call_lenK (by rfl) T.z_len PySem.boot_len (pa_cons (pv 0) pa_nil)) pe_int (nomark _)) (pw_or1 (pt_cmpR op_notIn_seq (pe_ix ix_list (pv 0) pe_int (fun _ _ => rfl)) (pe_lst (pa_cons pe_str (pa_cons pe_str pa_nil))) (by rfl)))))) (pss_one (ps_ret pe_non)) pss_nil)
      (pss_cons (ps_set (i := 1) sc__law_helper_read.nd rfl (Or.inl rfl) pe_int)
      (pss_cons (ps_stop (ps_while PassesOwn.never (pt_mid (PW.pt (pw_and (pt_cmpR op_lt (pv 1) (pe_callB call_lenK (by rfl) T.z_len PySem.boot_len (pa_cons (pv 0) pa_nil)) (nomark _)) (pw_and1 (pt_cmpR op_in_seq (pe_ix ix_list (pv 0) (pv 1) (fun _ _ => rfl)) (pe_lst (pa_cons pe_str (pa_cons pe_str pa_nil))) (by rfl)))))) (pss_one (ps_set (i := 1) sc__law_helper_read.nd rfl (Or.inl rfl) (pe_op op_add (pv 1) pe_int)))))
      (pss_cons (ps_set (i := 2) sc__law_helper_read.nd rfl (Or.inl rfl) (pe_callTy call_tuple_of (by rfl) T.z_tuple (by decide +kernel) (pa_cons (pe_slice sl_list (pv 0) (po_some pe_int) (po_some (pv 1))) pa_nil)))
      (pss_cons (ps_set (i := 3) sc__law_helper_read.nd rfl (Or.inl rfl) (pe_cmpR (op_eqD (hr.units)) (pe_slice sl_list (pv 0) (po_some (pv 1)) (po_some (pe_op op_add (pv 1) pe_int))) (pe_lst (pa_cons pe_str pa_nil)) (nomark _)))
      (pss_cons (ps_set (i := 4) sc__law_helper_read.nd rfl (Or.inl rfl) (pe_slice sl_list (pv 0) (po_some (pe_op op_add (pv 1) (pe_callTy call_int1 (by rfl) T.z_int (by decide +kernel) (pa_cons (pv 3) pa_nil)))) po_none))
      (pss_cons (ps_if (pt_mid (PW.pt (pw_or (PW.pt (pw_and (pt_cmpR op_gt (pe_callB call_lenK (by rfl) T.z_len PySem.boot_len (pa_cons (pv 4) pa_nil)) pe_int (nomark _)) (pw_and1 (pt_cmpR op_ne (pe_ix ix_list (pv 4) pe_int (fun _ _ => rfl)) pe_str (nomark _))))) (pw_or1 (pt_cmpR op_eq (pe_callB call_lenK (by rfl) T.z_len PySem.boot_len (pa_cons (pv 4) pa_nil)) pe_int (nomark _)))))) (pss_one (ps_ret pe_non)) pss_nil)
      (pss_one (ps_ret (pe_tup (pa_cons (pe_ix ix_list (pv 0) pe_int (fun _ _ => rfl)) (pa_cons (pe_callTy call_int_str (by rfl) T.z_int (by decide +kernel) (pa_cons (pe_ix ix_list (pv 0) pe_int (fun _ _ => rfl)) pa_nil)) (pa_cons (pv 2) (pa_cons (pv 3) (pa_cons (pe_callTy call_tuple_of (by rfl) T.z_tuple (by decide +kernel) (pa_cons (pe_slice sl_list (pv 4) (po_some pe_int) po_none) pa_nil)) pa_nil))))))))))))))), ?_⟩
    refine sq_seq (midT_of (fun c H1 => Same H H1 ∧ (c = true → rdH ws = none) ∧ (c = false → ∃ x nm s r, ws = x :: nm :: s :: r ∧ s ∈ sides)) ?_ ?_)
    · walk_at "go"
      refine ifD (fun c1 => ?_) (fun c1 => ?_)
      · have c1 : ws.length < 3 := by omega
        exact wait ⟨fun _ _ e => e, fun _ => rdH_short c1, fun z => nomatch z⟩
      · obtain ⟨x, nm, s, r, rfl⟩ := len3up (ws := ws) (by omega)
        have a2 : atI ((x :: nm :: s :: r).map V.str) 2 = some (.str s) := by
          obtain ⟨v, e1, e2⟩ := atI_in (xs := (x :: nm :: s :: r).map V.str) (i := 2) (by omega) (by rw [List.length_map]; simp only [List.length_cons]; omega)
          have e2 : some (V.str s) = some v := e2
          rw [e1, e2]
        walk_at "go"
        intro p1 hp1
        have s1 : Same H (upd H p1 (.lst [.str "0", .str "1"])) := Same.upd_new hp1
        refine ⟨p1, _, rfl, .inl (SqL.of upd_same), rfl, rfl, ?_⟩
        rw [if_pos rfl, show inV (.str s) [.str "0", .str "1"] = decide (s ∈ sides) from in_strs s sides]
        refine ⟨_, rfl, wait ⟨s1, fun z => ?_, fun z => ⟨x, nm, s, r, rfl, ?_⟩⟩⟩
        · refine rdH_side fun q => ?_
          rw [decide_eq_true q] at z
          cases z
        · by_cases q : s ∈ sides
          · exact q
          · rw [decide_eq_false q] at z
            cases z
    rintro c H1 ⟨s1, hc1, hc2⟩
    refine ifB (fun e => ?_) (fun e => ?_)
    · walk_at "go"
      exact q2 (hc1 e) _ s1
    obtain ⟨x, nm, sd, r, rfl, hs⟩ := hc2 e
    simp only [List.length_cons] at hlw
    have lw2 : ((x :: nm :: sd :: r).map V.str).length = r.length + 3 := by rw [List.length_map] <;> rfl
    walk_at "go"
    refine while_W (fun m σ H4 => ∃ k : Nat, k ≤ r.length ∧ m = r.length - k ∧ (∀ w ∈ r.take k, w ∈ hows) ∧ σ = [some (.ref W), some (.int (3 + k)), none, none, none] ∧ Same H H4) r.length ?_ ?_
    · exact ⟨0, Nat.zero_le _, rfl, (fun _ h => nomatch h), rfl, s1⟩
    · rintro m σ H4 ⟨k, hk, rfl, hts, rfl, s4⟩
      have hW4 := s4 _ _ hW
      refine midT_of (fun c H5 => Same H4 H5 ∧ (c = true → ∃ w, r[k]? = some w ∧ w ∈ hows) ∧ (c = false → ∀ w, (r.drop k).head? = some w → w ∉ hows)) ?_ ?_
      · walk_at "go"
        refine ifD (fun c1 => ?_) (fun c1 => ?_)
        · have c1 : k < r.length := by omega
          obtain ⟨w, hw⟩ : ∃ w, r[k]? = some w := ⟨_, List.getElem?_eq_getElem c1⟩
          have a0 : atI ((x :: nm :: sd :: r).map V.str) (3 + (k : Int)) = some (.str w) := by
            obtain ⟨v, e1, e2⟩ := atI_in (xs := (x :: nm :: sd :: r).map V.str) (i := 3 + (k : Int)) (by omega) (by omega)
            rw [show (3 + (k : Int)).toNat = k + 1 + 1 + 1 by omega] at e2
            have e2 : (r.map V.str)[k]? = some v := e2
            rw [List.getElem?_map, hw] at e2
            rw [e1, ← e2] <;> rfl
          walk_at "go"
          intro pa hpa
          have sa : Same H4 (upd H4 pa (.lst [.str "lent", .str "given"])) := Same.upd_new hpa
          refine ⟨pa, _, rfl, .inl (SqL.of upd_same), rfl, rfl, ?_⟩
          rw [if_neg (by decide), show inV (.str w) [.str "lent", .str "given"] = decide (w ∈ hows) from in_strs w hows]
          refine ⟨_, rfl, wait ⟨sa, fun z => ⟨w, hw, of_decide_eq_true z⟩, fun z v hv => ?_⟩⟩
          rw [List.head?_drop, hw] at hv
          rw [← Option.some.inj hv]
          exact of_decide_eq_false z
        · refine wait ⟨fun _ _ e => e, (fun z => nomatch z), fun _ w z => ?_⟩
          rw [List.drop_eq_nil_of_le (by omega)] at z
          cases z
      rintro c5 H5 ⟨s5, h51, h52⟩
      refine ifB (fun e => ?_) (fun e => ?_)
      · obtain ⟨w, hw, hm⟩ := h51 e
        have hkl := (List.getElem?_eq_some_iff.mp hw).1
        refine next_W ?_
        walk_at "go"
        refine wait ⟨r.length - (k + 1), by omega, k + 1, by omega, rfl, fun v hv => ?_, ?_, s4.trans s5⟩
        · rw [List.take_add_one, hw, Option.toList_some] at hv
          rcases List.mem_append.mp hv with z | z
          · exact hts v z
          · rw [List.mem_singleton.mp z]
            exact hm
        · show [some (V.ref W), some (.int (3 + (k : Int) + 1)), none, none, none] = _
          rw [show 3 + (k : Int) + 1 = 3 + ((k + 1 : Nat) : Int) by omega]
      · have h52 := h52 e
        have esp : spanH r = (r.take k, r.drop k) := by
          have := spanH_of hts h52
          rw [List.take_append_drop] at this
          exact this
        obtain ⟨q, eq⟩ : ∃ q, q = r.drop k := ⟨_, rfl⟩
        rw [← eq] at esp
        have hW5 := s5 _ _ hW4
        have e3k : (3 + (k : Int)) = ((3 + k : Nat) : Int) := by omega
        walk_at "go"
        rw [e3k, show (3 : Int) = ((3 : Nat) : Int) from rfl, cutV_two, lw2, Nat.min_eq_left (by omega), Nat.min_eq_left (by omega), show 3 + k - 3 = k by omega]
        rw [show List.drop 3 ((x :: nm :: sd :: r).map V.str) = r.map V.str from rfl, ← List.map_take]
        intro p6 hp6
        obtain ⟨H6, e6⟩ : ∃ H6, H6 = upd H5 p6 (.lst ((r.take k).map V.str)) := ⟨_, rfl⟩
        have s6 : Same H5 H6 := by rw [e6]; exact Same.upd_new hp6
        have h6 : H6 p6 = some (.lst ((r.take k).map V.str)) := by rw [e6, upd_same]
        show tNil _ (upd H5 p6 (.lst ((r.take k).map V.str))) _
        rw [← e6]
        refine ⟨p6, _, rfl, .inl ⟨SqL.of h6, fun t7 ht7 => ?_⟩⟩
        obtain ⟨H7, e7⟩ : ∃ H7, H7 = upd H6 t7 (.tup ((r.take k).map V.str)) := ⟨_, rfl⟩
        have s7 : Same H6 H7 := by rw [e7]; exact Same.upd_new ht7
        have h7 : H7 t7 = some (.tup ((r.take k).map V.str)) := by rw [e7, upd_same]
        rw [← e7]
        have s57 : Same H5 H7 := s6.trans s7
        have hW7 := s57 _ _ hW5
        have ecut : cutV ((x :: nm :: sd :: r).map V.str) (some ((3 + k : Nat) : Int)) (some (((3 + k : Nat) : Int) + 1)) = (q.take 1).map V.str := by
          rw [show ((3 + k : Nat) : Int) + 1 = ((3 + k + 1 : Nat) : Int) by omega, cutV_two, lw2, show min (3 + k) (r.length + 3) = 3 + k by omega, eq]
          have ed : List.drop (3 + k) ((x :: nm :: sd :: r).map V.str) = (r.drop k).map V.str := by
            rw [show 3 + k = k + 1 + 1 + 1 by omega]
            show (r.map V.str).drop k = _
            rw [List.map_drop]
          rw [ed, List.map_take]
          by_cases c : k < r.length
          · rw [show min (3 + k + 1) (r.length + 3) - (3 + k) = 1 by omega]
          · rw [List.drop_eq_nil_of_le (by omega)] <;> simp
        walk_at "go"
        rw [ecut]
        intro p8 hp8
        obtain ⟨H8, e8⟩ : ∃ H8, H8 = upd H7 p8 (.lst ((q.take 1).map V.str)) := ⟨_, rfl⟩
        have s8 : Same H7 H8 := by rw [e8]; exact Same.upd_new hp8
        have h8 : H8 p8 = some (.lst ((q.take 1).map V.str)) := by rw [e8, upd_same]
        show tLst _ _ (upd H7 p8 (.lst ((q.take 1).map V.str))) _
        rw [← e8]
        walk_at "go"
        intro p9 hp9
        obtain ⟨H9, e9⟩ : ∃ H9, H9 = upd H8 p9 (.lst [.str "gives"]) := ⟨_, rfl⟩
        have s9 : Same H8 H9 := by rw [e9]; exact Same.upd_new hp9
        have h9 : H9 p9 = some (.lst [.str "gives"]) := by rw [e9, upd_same]
        rw [← e9]
        have okq : ∀ w ∈ q, PyData.strOk w = true := fun w hw => okw w (by
          refine List.mem_cons_of_mem _ (List.mem_cons_of_mem _ (List.mem_cons_of_mem _ ?_))
          rw [eq] at hw
          exact List.mem_of_mem_drop hw)
        have d1 : Dp K H9 (.ref p8) (.list ((q.take 1).map PyData.str)) := .lst (SqL.of (s9 _ _ h8)) (dp_strs _)
        have d2 : Dp K H9 (.ref p9) (.list ((["gives"] : List Str).map PyData.str)) := .lst (SqL.of h9) (dp_strs ["gives"])
        have sh1 := shaped_strs (ws := q.take 1) fun w hw => okq w (List.mem_of_mem_take hw)
        have sh2 := shaped_strs (ws := ["gives"]) (by decide +kernel)
        refine ⟨_, _, d1, d2, sh1, sh2, ?_⟩
        rw [eqv_gives q]
        have s59 : Same H5 H9 := (s57.trans s8).trans s9
        have hW9 := s59 _ _ hW5
        walk_at "go"
        refine .inr ⟨_, rfl, ?_⟩
        walk_at "go"
        obtain ⟨z2, ez2⟩ : ∃ z2, z2 = if givR q = true then q.tail else q := ⟨_, rfl⟩
        have ecut2 : cutV ((x :: nm :: sd :: r).map V.str) (some (((3 + k : Nat) : Int) + (if givR q = true then 1 else 0))) none = z2.map V.str := by
          have ed : ∀ j, List.drop (3 + k + j) ((x :: nm :: sd :: r).map V.str) = (q.drop j).map V.str := fun j => by
            rw [show 3 + k + j = k + j + 1 + 1 + 1 by omega]
            show (r.map V.str).drop (k + j) = _
            rw [← List.map_drop, eq, List.drop_drop]
          cases hg : givR q with
          | true =>
            rw [hg] at ez2
            rw [if_pos rfl, show ((3 + k : Nat) : Int) + 1 = ((3 + k + 1 : Nat) : Int) by omega, cutV_from, ed 1, ez2, if_pos rfl, List.drop_one]
          | false =>
            rw [hg] at ez2
            have e0 := ed 0
            rw [Nat.add_zero, List.drop_zero] at e0
            rw [if_neg (by decide), Int.add_zero, cutV_from, e0, ez2, if_neg (by decide)]
        rw [ecut2]
        intro p10 hp10
        obtain ⟨H10, e10⟩ : ∃ H10, H10 = upd H9 p10 (.lst (z2.map V.str)) := ⟨_, rfl⟩
        have s10 : Same H9 H10 := by rw [e10]; exact Same.upd_new hp10
        have h10 : H10 p10 = some (.lst (z2.map V.str)) := by rw [e10, upd_same]
        have s0t : Same H H10 := (s4.trans s5).trans (s59.trans s10)
        have l2 : (z2.map V.str).length = z2.length := List.length_map _
        show tSeq _ _ _ _ (upd H9 p10 (.lst (z2.map V.str)))
        rw [← e10]
        refine sq_seq (midT_of (fun c H11 => H11 = H10 ∧ (c = true → thrR z2 = none) ∧ (c = false → thrR z2 = some (z2.drop 1))) ?_ ?_)
        · walk_at "go"
          cases z2 with
          | nil =>
            refine ifNo (by decide) ?_
            walk_at "go"
            exact wait ⟨rfl, (fun z => absurd (of_decide_eq_true z) (by intro y; cases y)), fun _ => rfl⟩
          | cons w q' =>
            have a0 : atI ((w :: q').map V.str) 0 = some (.str w) := by
              obtain ⟨v, e1, e2⟩ := atI_in (xs := (w :: q').map V.str) (i := 0) (by omega) (by rw [List.length_map]; simp only [List.length_cons]; omega)
              have e2 : some (V.str w) = some v := e2
              rw [e1, e2]
            refine ifYes (by rw [List.length_map, List.length_cons]; omega) ?_
            walk_at "go"
            by_cases b : w = "throws"
            · rw [decide_eq_true (congrArg V.str b)]
              refine ifF rfl ?_
              walk_at "go"
              refine wait ⟨rfl, fun z => ?_, fun z => ?_⟩
              · have := V.int.inj (of_decide_eq_true z)
                rw [List.length_map, List.length_cons] at this
                have e0 : q' = [] := List.eq_nil_of_length_eq_zero (by omega)
                show (if w = "throws" ∧ q' ≠ [] then some q' else none) = none
                rw [if_neg (fun y => y.2 e0)]
              · have := of_decide_eq_false z
                show (if w = "throws" ∧ q' ≠ [] then some q' else none) = some q'
                rw [if_pos ⟨b, fun e0 => this (by rw [e0] <;> rfl)⟩]
            · rw [decide_eq_false (fun z => b (V.str.inj z))]
              refine ifT rfl (wait ⟨rfl, fun _ => ?_, fun z => nomatch z⟩)
              show (if w = "throws" ∧ q' ≠ [] then some q' else none) = none
              rw [if_neg (fun y => b y.1)]
        rintro c11 H11 ⟨rfl, h111, h112⟩
        refine ifB (fun e => ?_) (fun e => ?_)
        · have en : rdH (x :: nm :: sd :: r) = none := by
            rw [rdH_eq hs]
            unfold rdT tailR
            rw [esp, ← ez2, h111 e] <;> rfl
          walk_at "go"
          exact q2 en _ s0t
        · have en : rdH (x :: nm :: sd :: r) = some ⟨nm, sideOf sd, r.take k, givR q, z2.drop 1⟩ := by
            rw [rdH_eq hs]
            unfold rdT tailR
            rw [esp, ← ez2, h112 e] <;> rfl
          obtain ⟨hi1, hi2⟩ := int_side hs
          have hW11 := s0t _ _ hW
          have a1 : atI ((x :: nm :: sd :: r).map V.str) 1 = some (.str nm) := by
            obtain ⟨v, e1, e2⟩ := atI_in (xs := (x :: nm :: sd :: r).map V.str) (i := 1) (by omega) (by omega)
            have e2 : some (V.str nm) = some v := e2
            rw [e1, e2]
          have a2 : atI ((x :: nm :: sd :: r).map V.str) 2 = some (.str sd) := by
            obtain ⟨v, e1, e2⟩ := atI_in (xs := (x :: nm :: sd :: r).map V.str) (i := 2) (by omega) (by omega)
            have e2 : some (V.str sd) = some v := e2
            rw [e1, e2]
          walk_at "go"
          rw [cutV_f1, ← List.map_drop]
          intro p12 hp12
          obtain ⟨H12, e12⟩ : ∃ H12, H12 = upd H11 p12 (.lst ((z2.drop 1).map V.str)) := ⟨_, rfl⟩
          have s12 : Same H11 H12 := by rw [e12]; exact Same.upd_new hp12
          have h12 : H12 p12 = some (.lst ((z2.drop 1).map V.str)) := by rw [e12, upd_same]
          show tNil _ (upd H11 p12 (.lst ((z2.drop 1).map V.str))) _
          rw [← e12]
          refine ⟨p12, _, rfl, .inl ⟨SqL.of h12, fun t13 ht13 => ?_⟩⟩
          obtain ⟨H13, e13⟩ : ∃ H13, H13 = upd H12 t13 (.tup ((z2.drop 1).map V.str)) := ⟨_, rfl⟩
          have s13 : Same H12 H13 := by rw [e13]; exact Same.upd_new ht13
          have h13 : H13 t13 = some (.tup ((z2.drop 1).map V.str)) := by rw [e13, upd_same]
          rw [← e13]
          walk_at "go"
          intro t14 ht14
          have s14 : Same H13 (upd H13 t14 (.tup [.str nm, .int (sideOf sd), .ref t7, .bl (givR q), .ref t13])) := Same.upd_new ht14
          have h7' : H11 t7 = some (.tup ((r.take k).map V.str)) := s10 _ _ (s9 _ _ (s8 _ _ h7))
          refine q1 ⟨nm, sideOf sd, r.take k, givR q, z2.drop 1⟩ en t14 _ (same_none' ((s0t.trans s12).trans s13) ht14) ⟨t7, t13, upd_same, SqT.of (s14 _ _ (s13 _ _ (s12 _ _ h7'))), SqT.of (s14 _ _ h13)⟩ (((s0t.trans s12).trans s13).trans s14)
end
end Pf
set_option Elab.async false
set_option linter.all false
set_option maxRecDepth 100000
set_option maxHeartbeats 4000000
namespace Pf
open PySem L2
local macro_rules | `(tactic| walk_at "nz") => `(tactic| (show (_ : Int) ≠ 0; omega))
local macro_rules | `(tactic| walk_at "ne") => `(tactic| first | assumption | (apply Ne.symm; assumption))
local macro_rules | `(tactic| walk_at "hp") => `(tactic| first | assumption | exact upd_same | (refine upd_get ?_ ?_; walk_at "ne"; walk_at "hp"))
local macro_rules | `(tactic| walk_at "sd") => `(tactic| first
  | (with_reducible show (_ : Int) < _; omega)
  | (with_reducible show (_ : Int) ≤ _; omega)
  | (with_reducible show (_ : Nat) < _; omega)
  | (with_reducible show (_ : Nat) ≤ _; omega)
  | rfl
  | assumption
  | exact kV_int _
  | exact kV_str _
  | (show (_ : Int) ≠ 0; omega)
  | exact SqL.of (by walk_at "hp")
  | exact ⟨_, SqL.of (by walk_at "hp")⟩
  | exact ⟨_, SqT.of (by walk_at "hp")⟩
  | exact ⟨_, (by assumption)⟩
  | exact SqT.of (by walk_at "hp")
  | exact Rd.of (by walk_at "hp")
  | exact Or.inl (SqL.of (by walk_at "hp"))
  | exact Or.inr (SqT.of (by walk_at "hp"))
  | exact Or.inr (by assumption)
  | (walk_at "hp")
  | (exact Or.inl ⟨rfl, _, SqL.of (by walk_at "hp")⟩)
  | (exact Or.inl ⟨by omega, by omega⟩)
  | (exact Or.inr ⟨by omega, by omega⟩)
  | (refine ⟨?_, ?_, ?_⟩ <;> omega)
  | omega
  | (exact small_le (by first | omega | (simp only [List.length_cons, List.length_nil]; omega)))
  | (exact small_lt (by first | omega | (simp only [List.length_cons, List.length_nil]; omega)))
  | exact Nat.le_of_ble_eq_true rfl
  | exact ⟨_, rfl⟩
  | decide)
local macro_rules | `(tactic| walk_at "st") => `(tactic| first
  | with_reducible refine sq_seq ?_
  | apply Exists.intro
  | (refine And.intro ?_ ?_; (walk_at "sd")))
local macro_rules | `(tactic| walk_at "go") => `(tactic| repeat (walk_at "st"))
section
variable {P : Program} {w : World} {K : PySem.W.Frag} {mg : Str → Option Value} {base : Heap} {a : Ad}
def spLRead (K : PySem.W.Frag) : Sp := fun vs H Q _ => ∃ page : Str, vs = [.str page] ∧ page.length ≤ 7900 ∧ PyData.strOk page = true ∧
  ∀ (t D F : Addr) (z : Int) (L : List (Addr × Pr)) (M : List (Addr × Hl)) (H' : Hp), H' t = some (.tup [.int z, .ref D, .ref F]) → PairsAt H' D L → HelpersAt K H' F M →
    ((z = -1 ∧ rdPre (linesOf page) = some (L.map (·.2), M.map (·.2))) ∨ ∃ i : Nat, z = i ∧ BadL (linesOf page) i) → Same H H' → Q (.ref t) H'
theorem ok__law_read (T : Txt K mg a) : FnOk P w K mg base CX0 2 a.f__law_read a.d__law_read ["_law_page"] (spLRead K) := by
  have G__law_pair_read := ok__law_pair_read (P := P) (w := w) (base := base) T
  have G__law_helper_read := ok__law_helper_read (P := P) (w := w) (base := base) T
  have cl_Pacts := T.cl_Pacts
  have na_Pacts_kept_pairs := T.na_Pacts_kept_pairs
  have na_Pacts_kept_pacts := T.na_Pacts_kept_pacts
  refine T.F__law_read.ok sc__law_read (fun vs H Q E h => ?_) (fun cdv A outer s H vs Q E hr h => ?_)
  · obtain ⟨page, rfl, _⟩ := h
    rfl
  · obtain ⟨page, rfl, hl, ok, q⟩ := h
    have hsz : page.length + 2 ≤ sizeLine := small_le (by omega)
    have lmany := lines_many page
    refine ⟨_, (pss_cons (ps_set (i := 1) sc__law_read.nd rfl (Or.inl rfl) (pe_lst pa_nil))
      (pss_cons (ps_set (i := 2) sc__law_read.nd rfl (Or.inl rfl) (pe_lst pa_nil))
      (pss_cons (ps_set (i := 3) sc__law_read.nd rfl (Or.inl rfl) (pe_split (pv 0) pe_str))
      (pss_mid (ps_if (pt_cmpR op_eq (pv 0) pe_str (nomark _)) (pss_one (ps_set (i := 3) sc__law_read.nd rfl (Or.inl rfl) (pe_lst pa_nil))) pss_nil)
      (pss_cons (ps_stop (ps_for PassesOwn.never rfl (pi_wait (pi_enum rfl T.z_enumerate (pa_cons (pv 3) pa_nil))) (pg_tup rfl (pgs_cons (pg_name (i := 4) sc__law_read.nd rfl (Or.inl rfl)) (pgs_cons (pg_name (i := 5) sc__law_read.nd rfl (Or.inl rfl)) pgs_nil))) (pss_cons (ps_set (i := 6) sc__law_read.nd rfl (Or.inl rfl) (pe_split (pv 5) pe_str))
      (pss_cons (ps_set (i := 7) sc__law_read.nd rfl (Or.inl rfl) pe_non)
      (pss_mid (ps_if (pt_mid (PW.pt (pw_and (pt_cmpR op_notIn_seq pe_str (pv 6) (by rfl)) (pw_and (pt_cmpR op_eq (pe_ix ix_list (pv 6) pe_int (fun _ _ => rfl)) pe_str (nomark _)) (pw_and1 (pt_cmpR op_eq (pe_callB call_lenK (by rfl) T.z_len PySem.boot_len (pa_cons (pv 2) pa_nil)) pe_int (nomark _))))))) (pss_cons (ps_set (i := 7) sc__law_read.nd rfl (Or.inl rfl) (pe_call G__law_pair_read (hr.mono (by decide)) rfl T.m__law_pair_read T.F__law_pair_read.kp T.b__law_pair_read .nil pass0 (pa_cons (pv 6) pa_nil)))
      (pss_one (ps_expr (pe_bm PySem.F.plainAttrs_list PySem.F.slot_list_append PySem.F.type_list_append mt_append (pv 1) (pa_cons (pv 7) pa_nil))))) (pss_one (ps_if (pt_mid (PW.pt (pw_and (pt_cmpR op_notIn_seq pe_str (pv 6) (by rfl)) (pw_and1 (pt_cmpR op_eq (pe_ix ix_list (pv 6) pe_int (fun _ _ => rfl)) pe_str (nomark _)))))) (pss_cons (ps_set (i := 7) sc__law_read.nd rfl (Or.inl rfl) (pe_call G__law_helper_read (hr.mono (by decide)) rfl T.m__law_helper_read T.F__law_helper_read.kp T.b__law_helper_read .nil pass0 (pa_cons (pv 6) pa_nil)))
      (pss_one (ps_expr (pe_bm PySem.F.plainAttrs_list PySem.F.slot_list_append PySem.F.type_list_append mt_append (pv 2) (pa_cons (pv 7) pa_nil))))) pss_nil)))
      (pss_one (ps_if (pt_cmpR op_isN (pv 7) pe_non (nomark _)) (pss_one (ps_ret (pe_tup (pa_cons (pv 4) (pa_cons (pe_lst pa_nil) (pa_cons (pe_lst pa_nil) pa_nil)))))) pss_nil)))))))
      (pss_one (ps_ret (pe_tup (pa_cons (pe_un un_neg pe_int) (pa_cons (pv 1) (pa_cons (pv 2) pa_nil))))))))))), ?_⟩
    walk_at "go"
    intro Pp hPp
    obtain ⟨H1, e1⟩ : ∃ H1, H1 = upd H Pp (.lst []) := ⟨_, rfl⟩
    have s1 : Same H H1 := by rw [e1]; exact Same.upd_new hPp
    have h1 : H1 Pp = some (.lst []) := by rw [e1, upd_same]
    rw [← e1]
    walk_at "go"
    intro Pf hPf
    obtain ⟨H2, e2⟩ : ∃ H2, H2 = upd H1 Pf (.lst []) := ⟨_, rfl⟩
    have s2 : Same H1 H2 := by rw [e2]; exact Same.upd_new hPf
    have h2 : H2 Pf = some (.lst []) := by rw [e2, upd_same]
    rw [← e2]
    have nPF : Pp ≠ Pf := ne_of_none h1 hPf
    have hPf0 : H Pf = none := same_none' s1 hPf
    walk_at "go"
    intro Ln hLn
    obtain ⟨H3, e3⟩ : ∃ H3, H3 = upd H2 Ln (.lst ((Txt.split page "\n").map V.str)) := ⟨_, rfl⟩
    have s3 : Same H2 H3 := by rw [e3]; exact Same.upd_new hLn
    have h3 : H3 Ln = some (.lst ((Txt.split page "\n").map V.str)) := by rw [e3, upd_same]
    rw [← e3]
    have h23 := s3 _ _ h2
    have h13 := s3 _ _ (s2 _ _ h1)
    refine mid_of (fun σ H4 => ∃ Ln', σ = [some (.str page), some (.ref Pp), some (.ref Pf), some (.ref Ln'), none, none, none, none] ∧ H4 Ln' = some (.lst ((linesOf page).map V.str)) ∧ Ln' ≠ Pp ∧ Ln' ≠ Pf ∧ Same H3 H4) ?_ ?_
    · walk_at "go"
      refine ifD (fun b => ?_) (fun b => ?_)
      · have b1 : page = "" := V.str.inj b
        walk_at "go"
        intro p4 hp4
        refine wait ⟨p4, rfl, ?_, (ne_of_none h13 hp4).symm, (ne_of_none h23 hp4).symm, Same.upd_new hp4⟩
        rw [upd_same]
        unfold linesOf
        rw [if_pos b1] <;> rfl
      · have b1 : ¬ page = "" := fun z => b (congrArg V.str z)
        refine wait ⟨Ln, rfl, ?_, (ne_of_none (s2 _ _ h1) hLn).symm, (ne_of_none h2 hLn).symm, fun _ _ e => e⟩
        rw [h3]
        unfold linesOf
        rw [if_neg b1]
    rintro σ H4 ⟨Ln', rfl, hL4, nL1, nL2, s4⟩
    have h14 := s4 _ _ h13
    have h24 := s4 _ _ h23
    have s04 : Same H H4 := ((s1.trans s2).trans s3).trans s4
    refine sq_seq (stop_in ?_)
    walk_at "go"
    refine wait ?_
    refine forW (walk_enum (K := K) (xs := (linesOf page).map V.str)) (fun i σ H' => (∃ u4 u5 u6 u7, σ = [some (.str page), some (.ref Pp), some (.ref Pf), some (.ref Ln'), u4, u5, u6, u7]) ∧ H' Ln' = some (.lst ((linesOf page).map V.str)) ∧ Same H H' ∧
      ∃ (L : List (Addr × Pr)) (M : List (Addr × Hl)), rdPre ((linesOf page).take i) = some (L.map (·.2), M.map (·.2)) ∧ L.length + M.length = i ∧ PairsAt H' Pp L ∧ HelpersAt K H' Pf M) ?_ ?_ ?_ ?_
    · exact ⟨⟨_, _, _, _, rfl⟩, hL4, s04, [], [], rfl, rfl, ⟨h14, fun _ h => nomatch h⟩, ⟨h24, fun _ h => nomatch h⟩⟩
    · rintro i σ H' _ ⟨_, h, _⟩
      exact SqL.of h
    · rintro i v σ H5 H6 hi ⟨⟨u4, u5, u6, u7, rfl⟩, hL5, s5, L, M, erd, hLM, PP5, HF5⟩ ⟨t, y1, y2, rfl, ht, rfl, hy1, hy2⟩
      have hy2 : ((linesOf page).map V.str)[i]? = some y2 := hy2
      rw [List.getElem?_map] at hy2
      obtain ⟨ln, hln, rfl⟩ := Option.map_eq_some_iff.mp hy2
      have hlt := (List.getElem?_eq_some_iff.mp hln).1
      have hlin := line_in (List.mem_of_getElem? hln)
      have hs2 := rdPre_snoc hln
      rw [erd] at hs2
      have hs2 : rdPre ((linesOf page).take (i + 1)) = stepL (L.map (·.2), M.map (·.2)) ln := hs2
      cases hy1
      obtain ⟨H6, e6⟩ : ∃ H6, H6 = upd H5 t (.tup [.int i, .str ln]) := ⟨_, rfl⟩
      have s6 : Same H5 H6 := by rw [e6]; exact Same.upd_new ht
      have hlsz : ln.length + 2 ≤ sizeLine := small_le (by omega)
      have ht6 : upd H5 t (.tup [.int i, .str ln]) t = some (.tup [.int i, .str ln]) := upd_same
      walk_at "go"
      rw [← e6]
      intro W hW
      obtain ⟨w0, wr, ews⟩ := head_ne (x := ln)
      rw [ews]
      obtain ⟨H7, e7⟩ : ∃ H7, H7 = upd H6 W (.lst ((w0 :: wr).map V.str)) := ⟨_, rfl⟩
      have s7 : Same H6 H7 := by rw [e7]; exact Same.upd_new hW
      have hW7 : H7 W = some (.lst ((w0 :: wr).map V.str)) := by rw [e7, upd_same]
      rw [← e7]
      have s57 : Same H5 H7 := s6.trans s7
      have s07 : Same H H7 := s5.trans s57
      have HF7 := HF5.same s57
      have PP7 := PP5.same s57
      have hlF7 := HF7.ls
      have hls7 := PP7.ls
      have hL7 := s57 _ _ hL5
      have lm : (M.map fun e => V.ref e.1).length = M.length := List.length_map _
      have a0 : atI ((w0 :: wr).map V.str) 0 = some (.str w0) := by
        obtain ⟨v, e1, e2⟩ := atI_in (xs := (w0 :: wr).map V.str) (i := 0) (by omega) (by rw [List.length_map]; simp only [List.length_cons]; omega)
        have e2 : some (V.str w0) = some v := e2
        rw [e1, e2]
      have lwr : (w0 :: wr).length ≤ 10000 := by
        have := sepB.len ln
        rw [ews] at this
        omega
      have okws : ∀ w ∈ w0 :: wr, PyData.strOk w = true := fun w hw => (sepB.piece (x := ln) (by rw [ews]; exact hw)).2 (hlin.2 ok)
      walk_at "go"
      refine mid_of (fun σ H8 => (∃ v, σ = [some (.str page), some (.ref Pp), some (.ref Pf), some (.ref Ln'), some (.int i), some (.str ln), some (.ref W), some v] ∧
        ((v = .non ∧ stepL (L.map (·.2), M.map (·.2)) ln = none) ∨ (v ≠ .non ∧ ∃ (L' : List (Addr × Pr)) (M' : List (Addr × Hl)), stepL (L.map (·.2), M.map (·.2)) ln = some (L'.map (·.2), M'.map (·.2)) ∧ L'.length + M'.length = i + 1 ∧ PairsAt H8 Pp L' ∧ HelpersAt K H8 Pf M'))) ∧ H8 Ln' = some (.lst ((linesOf page).map V.str)) ∧ Same H H8) ?_ ?_
      · refine midT_of (fun c H8 => H8 = H7 ∧ (c = true → ("" : Str) ∉ w0 :: wr ∧ w0 = "word" ∧ M = []) ∧ (c = false → ¬ (("" : Str) ∉ w0 :: wr ∧ w0 = "word" ∧ M = []))) ?_ ?_
        · walk_at "go"
          refine ⟨flat_strs1 _, ?_⟩
          rw [if_pos rfl, in_strs]
          by_cases c0 : ("" : Str) ∈ w0 :: wr
          · rw [decide_eq_true c0]
            exact ⟨_, rfl, ifF rfl (wait ⟨rfl, (fun z => nomatch z), fun _ y => y.1 c0⟩)⟩
          rw [decide_eq_false c0]
          refine ⟨_, rfl, ifT rfl ?_⟩
          walk_at "go"
          refine ifD (fun b => ?_) (fun b => ?_)
          · have b1 : w0 = "word" := V.str.inj b
            walk_at "go"
            refine wait ⟨rfl, fun z => ⟨c0, b1, ?_⟩, fun z y => ?_⟩
            · have := V.int.inj (of_decide_eq_true z)
              exact List.eq_nil_of_length_eq_zero (by omega)
            · exact of_decide_eq_false z (by rw [lm, y.2.2] <;> rfl)
          · exact wait ⟨rfl, (fun z => nomatch z), fun _ y => b (congrArg V.str y.2.1)⟩
        rintro c H8 ⟨rfl, hc1, hc2⟩
        refine ifB (fun e => ?_) (fun e => ?_)
        · obtain ⟨c0, b1, eM⟩ := hc1 e
          subst b1
          subst eM
          have es := step_w (s := (L.map (·.2), ([] : List (Addr × Hl)).map (·.2))) ews c0 rfl
          walk_at "go"
          refine ⟨fun p hp t9 ht9 => ?_, fun hn => ?_⟩
          · have s9 : Same H8 (upd H8 t9 (.tup [.str p.near, .str p.far, .bl p.laden])) := Same.upd_new ht9
            have hls9 := s9 _ _ hls7
            have n9 : t9 ≠ Pp := (ne_of_none hls7 ht9).symm
            walk_at "go"
            refine ⟨small_lt (by rw [List.length_map]; omega), wait ⟨⟨_, rfl, .inr ⟨(by intro z; cases z), L ++ [(t9, p)], [], ?_, ?_, ⟨?_, fun d hd => ?_⟩, ⟨upd_get nPF.symm (s9 _ _ hlF7), fun _ h => nomatch h⟩⟩⟩, upd_get nL1 (s9 _ _ hL7), fun y o ey => upd_get (ne_of_none ey hPp) (s9 _ _ (s07 _ _ ey))⟩⟩
            · rw [es, hp, List.map_append] <;> rfl
            · rw [List.length_append, ← hLM] <;> rfl
            · rw [upd_same, List.map_append] <;> rfl
            · rcases List.mem_append.mp hd with z | z
              · have := s9 _ _ (PP7.at_ d z)
                exact upd_get (ne_of this hls9 (by intro z; cases z)) this
              · rw [List.mem_singleton.mp z]
                exact upd_get n9 upd_same
          · walk_at "go"
            exact ⟨small_lt (by rw [List.length_map]; omega), wait ⟨⟨_, rfl, .inl ⟨rfl, by rw [es, hn] <;> rfl⟩⟩, upd_get nL1 hL7, fun y o ey => upd_get (ne_of_none ey hPp) (s07 _ _ ey)⟩⟩
        have hc2 := hc2 e
        refine midT_of (fun c H9 => H9 = H8 ∧ (c = true → ("" : Str) ∉ w0 :: wr ∧ w0 = "helper") ∧ (c = false → ¬ (("" : Str) ∉ w0 :: wr ∧ w0 = "helper"))) ?_ ?_
        · walk_at "go"
          refine ⟨flat_strs1 _, ?_⟩
          rw [if_pos rfl, in_strs]
          by_cases c0 : ("" : Str) ∈ w0 :: wr
          · rw [decide_eq_true c0]
            exact ⟨_, rfl, ifF rfl (wait ⟨rfl, (fun z => nomatch z), fun _ y => y.1 c0⟩)⟩
          rw [decide_eq_false c0]
          refine ⟨_, rfl, ifT rfl ?_⟩
          walk_at "go"
          exact wait ⟨rfl, fun z => ⟨c0, V.str.inj (of_decide_eq_true z)⟩, fun z y => of_decide_eq_false z (congrArg V.str y.2)⟩
        rintro c9 H9 ⟨rfl, h91, h92⟩
        refine ifB (fun e => ?_) (fun e => ?_)
        · obtain ⟨c0, b1⟩ := h91 e
          subst b1
          have es := step_h (s := (L.map (·.2), M.map (·.2))) ews c0
          walk_at "go"
          refine ⟨fun p hp t9 Ha ht9 hat9 s9 => ?_, fun hn Ha s9 => ?_⟩
          · have hlF9 := s9 _ _ hlF7
            have tk9 : TK Ha (upd Ha Pf (.lst ((M.map fun e => V.ref e.1) ++ [.ref t9]))) := TK.lst hlF9
            walk_at "go"
            refine wait ⟨⟨_, rfl, .inr ⟨(by intro z; cases z), L, M ++ [(t9, p)], ?_, ?_, (PP7.same s9).keep (fun o eo => upd_get nPF eo) (fun t ys et => (tk9 t).1 ys et), ⟨?_, fun d hd => ?_⟩⟩⟩, upd_get nL2 (s9 _ _ hL7), fun y o ey => upd_get (ne_of_none ey hPf0) (s9 _ _ (s07 _ _ ey))⟩
            · rw [es, hp, List.map_append] <;> rfl
            · rw [List.length_append, ← hLM] <;> rfl
            · rw [upd_same, List.map_append] <;> rfl
            · rcases List.mem_append.mp hd with z | z
              · exact ((HF7.at_ d z).tk (TK.same s9)).tk tk9
              · rw [List.mem_singleton.mp z]
                exact hat9.tk tk9
          · have hlF9 := s9 _ _ hlF7
            walk_at "go"
            exact wait ⟨⟨_, rfl, .inl ⟨rfl, by rw [es, hn] <;> rfl⟩⟩, upd_get nL2 (s9 _ _ hL7), fun y o ey => upd_get (ne_of_none ey hPf0) (s9 _ _ (s07 _ _ ey))⟩
        · have h92 := h92 e
          refine wait ⟨⟨_, rfl, .inl ⟨rfl, step_no ews ?_⟩⟩, hL7, s07⟩
          by_cases c0 : ("" : Str) ∈ w0 :: wr
          · exact .inl c0
          · by_cases c1 : w0 = "word"
            · exact .inr (.inr ⟨c1, fun z => hc2 ⟨c0, c1, List.map_eq_nil_iff.mp z⟩⟩)
            · refine .inr (.inl fun z => ?_)
              unfold kinds at z
              rcases List.mem_cons.mp z with y | y
              · exact c1 y
              · exact h92 ⟨c0, List.mem_singleton.mp y⟩
      rintro σ H8 ⟨⟨v, rfl, hv⟩, hL8, s8⟩
      walk_at "go"
      rcases hv with ⟨rfl, hn⟩ | ⟨nv, L', M', hst, hLM', PP8, HF8⟩
      · rw [decide_eq_true rfl]
        refine ifT rfl ?_
        walk_at "go"
        intro p9 hp9
        obtain ⟨H9, e9⟩ : ∃ H9, H9 = upd H8 p9 (.lst []) := ⟨_, rfl⟩
        have s9 : Same H8 H9 := by rw [e9]; exact Same.upd_new hp9
        have h9 : H9 p9 = some (.lst []) := by rw [e9, upd_same]
        rw [← e9]
        walk_at "go"
        intro p10 hp10
        obtain ⟨H10, e10⟩ : ∃ H10, H10 = upd H9 p10 (.lst []) := ⟨_, rfl⟩
        have s10 : Same H9 H10 := by rw [e10]; exact Same.upd_new hp10
        have h10 : H10 p10 = some (.lst []) := by rw [e10, upd_same]
        rw [← e10]
        walk_at "go"
        intro t11 ht11
        have s11 : Same H10 (upd H10 t11 (.tup [.int i, .ref p9, .ref p10])) := Same.upd_new ht11
        exact q t11 p9 p10 i [] [] _ upd_same ⟨s11 _ _ (s10 _ _ h9), fun _ h => nomatch h⟩ ⟨s11 _ _ h10, fun _ h => nomatch h⟩ (.inr ⟨i, rfl, hlt, ⟨_, erd⟩, by rw [hs2]; exact hn⟩) (((s8.trans s9).trans s10).trans s11)
      · rw [decide_eq_false nv]
        refine ifF rfl ?_
        exact wait ⟨⟨_, _, _, _, rfl⟩, hL8, s8, L', M', by rw [hs2]; exact hst, hLM', PP8, HF8⟩
    · rintro σ H5 ⟨⟨u4, u5, u6, u7, rfl⟩, hL5, s5, L, M, erd, hLM, PP5, HF5⟩
      rw [List.length_map, List.take_length] at erd
      walk_at "go"
      intro t ht
      have s6 : Same H5 (upd H5 t (.tup [.int (-1), .ref Pp, .ref Pf])) := Same.upd_new ht
      exact q t Pp Pf (-1) L M _ upd_same (PP5.same s6) (HF5.same s6) (.inl ⟨rfl, erd⟩) (s5.trans s6)
end
end Pf
set_option Elab.async false
set_option linter.all false
set_option maxRecDepth 100000
set_option maxHeartbeats 4000000
namespace Pf
open PySem L2
local macro_rules | `(tactic| walk_at "nz") => `(tactic| (show (_ : Int) ≠ 0; omega))
local macro_rules | `(tactic| walk_at "ne") => `(tactic| first | assumption | (apply Ne.symm; assumption))
local macro_rules | `(tactic| walk_at "hp") => `(tactic| first | assumption | exact upd_same | (refine upd_get ?_ ?_; walk_at "ne"; walk_at "hp"))
local macro_rules | `(tactic| walk_at "sd") => `(tactic| first
  | (with_reducible show (_ : Int) < _; omega)
  | (with_reducible show (_ : Int) ≤ _; omega)
  | (with_reducible show (_ : Nat) < _; omega)
  | (with_reducible show (_ : Nat) ≤ _; omega)
  | rfl
  | assumption
  | exact kV_int _
  | exact kV_str _
  | (show (_ : Int) ≠ 0; omega)
  | exact SqL.of (by walk_at "hp")
  | exact ⟨_, SqL.of (by walk_at "hp")⟩
  | exact ⟨_, SqT.of (by walk_at "hp")⟩
  | exact ⟨_, (by assumption)⟩
  | exact SqT.of (by walk_at "hp")
  | exact Rd.of (by walk_at "hp")
  | exact Or.inl (SqL.of (by walk_at "hp"))
  | exact Or.inr (SqT.of (by walk_at "hp"))
  | exact Or.inr (by assumption)
  | (walk_at "hp")
  | (exact Or.inl ⟨rfl, _, SqL.of (by walk_at "hp")⟩)
  | (exact Or.inl ⟨by omega, by omega⟩)
  | (exact Or.inr ⟨by omega, by omega⟩)
  | (refine ⟨?_, ?_, ?_⟩ <;> omega)
  | omega
  | (exact small_le (by first | omega | (simp only [List.length_cons, List.length_nil]; omega)))
  | (exact small_lt (by first | omega | (simp only [List.length_cons, List.length_nil]; omega)))
  | exact Nat.le_of_ble_eq_true rfl
  | exact ⟨_, rfl⟩
  | decide)
local macro_rules | `(tactic| walk_at "st") => `(tactic| first
  | with_reducible refine sq_seq ?_
  | apply Exists.intro
  | (refine And.intro ?_ ?_; (walk_at "sd")))
local macro_rules | `(tactic| walk_at "go") => `(tactic| repeat (walk_at "st"))
section
variable {P : Program} {w : World} {K : PySem.W.Frag} {mg : Str → Option Value} {base : Heap} {a : Ad}
def tot (ws : List Str) : Nat := (ws.map (·.length)).sum + ws.length
theorem sum_set : ∀ {ws : List Str} {i : Nat} {x y : Str}, ws[i]? = some y → ((ws.set i x).map (·.length)).sum + y.length = (ws.map (·.length)).sum + x.length
  | [], i, x, y, h => by simp at h
  | w :: r, 0, x, y, h => by
    have e : w = y := by simpa using h
    show (x.length + (r.map (·.length)).sum) + y.length = (w.length + (r.map (·.length)).sum) + x.length
    rw [e]
    omega
  | w :: r, i + 1, x, y, h => by
    have h1 : r[i]? = some y := by simpa using h
    have ih := sum_set (x := x) h1
    show (w.length + ((r.set i x).map (·.length)).sum) + y.length = (w.length + (r.map (·.length)).sum) + x.length
    omega
theorem sum_perm {ws vs : List Str} (h : ws.Perm vs) : (ws.map (·.length)).sum = (vs.map (·.length)).sum := (h.map _).sum_nat
theorem mem_sum : ∀ {ws : List Str} {w : Str}, w ∈ ws → w.length ≤ (ws.map (·.length)).sum
  | [], _, h => by cases h
  | x :: r, w, h => by
    rw [List.map_cons, List.sum_cons]
    rcases List.mem_cons.mp h with rfl | z
    · omega
    · have := mem_sum z
      omega
/-- changed: of the same words, not twice as long -/
structure RowC (ws vs : List Str) : Prop where
  sub : ∀ w ∈ vs, w ∈ ws
  tot : tot vs ≤ 2 * tot ws
  len : vs.length ≤ ws.length + 1
theorem rowc_same (ws : List Str) : RowC ws ws := ⟨fun _ h => h, by omega, by omega⟩
theorem rowc_pop {ws : List Str} {k : Nat} {w : Str} (h : ws[k]? = some w) : RowC ws (ws.eraseIdx k) := by
  have p := erase_perm h
  have hs := sum_perm p
  have hl := p.length_eq
  rw [List.map_cons, List.sum_cons] at hs
  rw [List.length_cons] at hl
  refine ⟨fun v hv => p.mem_iff.mp (List.mem_cons_of_mem _ hv), ?_, by omega⟩
  unfold tot
  omega
theorem rowc_ins {ws : List Str} {k : Nat} {w : Str} (h : w ∈ ws) : RowC ws (ws.take k ++ [w] ++ ws.drop k) := by
  have p : (ws.take k ++ [w] ++ ws.drop k).Perm (w :: ws) := by
    have := List.perm_middle (a := w) (l₁ := ws.take k) (l₂ := ws.drop k)
    rw [List.take_append_drop] at this
    rw [List.append_assoc]
    exact this
  have hs := sum_perm p
  have hl := p.length_eq
  have hm := mem_sum h
  rw [List.map_cons, List.sum_cons] at hs
  rw [List.length_cons] at hl
  have l1 : 1 ≤ ws.length := List.length_pos_of_mem h
  refine ⟨fun v hv => ?_, ?_, by omega⟩
  · rcases List.mem_cons.mp (p.mem_iff.mp hv) with rfl | z
    · exact h
    · exact z
  · unfold tot
    omega
theorem rowc_swap {ws : List Str} {i j : Nat} {x y : Str} (hi : ws[i]? = some y) (hj : ws[j]? = some x) : RowC ws ((ws.set i x).set j y) := by
  have li := (List.getElem?_eq_some_iff.mp hi).1
  have lj := (List.getElem?_eq_some_iff.mp hj).1
  have h1 := sum_set (x := x) hi
  have hj2 : (ws.set i x)[j]? = some x := by
    rw [List.getElem?_set]
    by_cases c : i = j
    · rw [if_pos c, if_pos (by omega)]
    · rw [if_neg c]
      exact hj
  have h2 := sum_set (x := y) hj2
  refine ⟨fun v hv => ?_, ?_, by rw [List.length_set, List.length_set]; omega⟩
  · rcases List.mem_or_eq_of_mem_set hv with z | z
    · rcases List.mem_or_eq_of_mem_set z with z2 | z2
      · exact z2
      · rw [z2]; exact List.mem_of_getElem? hj
    · rw [z]; exact List.mem_of_getElem? hi
  · unfold tot
    rw [List.length_set, List.length_set]
    omega
def spRowCh : Sp := fun vs H Q _ => ∃ (b g l R : Addr) (n : Int) (ws : List Str), vs = [.ref b, .ref R] ∧ BoxAt H b g l n ∧ n ≤ 800000 ∧ R ≠ b ∧ R ≠ g ∧ H R = some (.lst (ws.map V.str)) ∧ 1 ≤ ws.length ∧ ws.length ≤ 50000 ∧
  ∀ (R' : Addr) (vs' : List Str) (n' : Int) (H' : Hp), H R' = none → H' R' = some (.lst (vs'.map V.str)) → RowC ws vs' → BoxAt H' b g l n' → n' ≤ n + 3 → Keep2 b g H H' → Q (.ref R') H'
theorem ok__law_row_changed (T : Txt K mg a) : FnOk P w K mg base CX0 3 a.f__law_row_changed a.d__law_row_changed ["_law_box_here", "_law_row"] spRowCh := by
  have G__law_take := ok__law_take (P := P) (w := w) (base := base) T
  have cl_Pacts := T.cl_Pacts
  have na_Pacts_kept_pairs := T.na_Pacts_kept_pairs
  have na_Pacts_kept_pacts := T.na_Pacts_kept_pacts
  refine T.F__law_row_changed.ok sc__law_row_changed (fun vs H Q E h => ?_) (fun cdv A outer s H vs Q E hr h => ?_)
  · obtain ⟨b, g, l, R, n, ws, rfl, _⟩ := h
    rfl
  · obtain ⟨b, g, l, R, n, ws, rfl, B, hn, nRb, nRg, hR, hl1, hl2, q⟩ := h
    have lw : (ws.map V.str).length = ws.length := List.length_map _
    refine ⟨_, (pss_cons (ps_set (i := 2) sc__law_row_changed.nd rfl (Or.inl rfl) (pe_call G__law_take (hr.mono (by decide)) rfl T.m__law_take T.F__law_take.kp T.b__law_take .nil pass0 (pa_cons (pv 0) (pa_cons pe_int pa_nil))))
      (pss_cons (ps_set (i := 3) sc__law_row_changed.nd rfl (Or.inl rfl) (pe_call G__law_take (hr.mono (by decide)) rfl T.m__law_take T.F__law_take.kp T.b__law_take .nil pass0 (pa_cons (pv 0) (pa_cons (pe_callB call_lenK (by rfl) T.z_len PySem.boot_len (pa_cons (pv 1) pa_nil)) pa_nil))))
      (pss_cons (ps_set (i := 4) sc__law_row_changed.nd rfl (Or.inl rfl) (pe_call G__law_take (hr.mono (by decide)) rfl T.m__law_take T.F__law_take.kp T.b__law_take .nil pass0 (pa_cons (pv 0) (pa_cons (pe_callB call_lenK (by rfl) T.z_len PySem.boot_len (pa_cons (pv 1) pa_nil)) pa_nil))))
      (pss_cons (ps_set (i := 1) sc__law_row_changed.nd rfl (Or.inl rfl) (pe_callTy call_list_of (by rfl) T.z_list (by decide +kernel) (pa_cons (pv 1) pa_nil)))
      (pss_mid (ps_if (pt_cmpR op_eq (pv 2) pe_int (nomark _)) (pss_one (ps_expr (pe_bm PySem.F.plainAttrs_list PySem.F.slot_list_pop PySem.F.type_list_pop mt_popAt (pv 1) (pa_cons (pv 3) pa_nil)))) pss_nil)
      (pss_mid (ps_if (pt_cmpR op_eq (pv 2) pe_int (nomark _)) (pss_one (ps_expr (pe_bm PySem.F.plainAttrs_list PySem.F.slot_list_insert PySem.F.type_list_insert mt_insert (pv 1) (pa_cons (pv 4) (pa_cons (pe_ix ix_list (pv 1) (pv 3) (fun _ _ => rfl)) pa_nil))))) pss_nil)
      (pss_mid (ps_if (pt_cmpR op_eq (pv 2) pe_int (nomark _)) (pss_one (ps_asg (pe_tup (pa_cons (pe_ix ix_list (pv 1) (pv 4) (fun _ _ => rfl)) (pa_cons (pe_ix ix_list (pv 1) (pv 3) (fun _ _ => rfl)) pa_nil))) (pg_tup rfl (pgs_cons (pg_sub (pv 1) (pv 3) set_list) (pgs_cons (pg_sub (pv 1) (pv 4) set_list) pgs_nil))))) pss_nil)
      (pss_one (ps_ret (pv 1)))))))))), ?_⟩
    walk_at "go"
    intro r1 H1 r10 r11 B1 k1
    have hR1 := k1 _ _ nRb nRg hR
    walk_at "go"
    intro r2 H2 r20 r21 B2 k2
    have hR2 := k2 _ _ nRb nRg hR1
    rw [lw] at r21
    walk_at "go"
    intro r3 H3 r30 r31 B3 k3
    have hR3 := k3 _ _ nRb nRg hR2
    rw [lw] at r31
    walk_at "go"
    intro R' hR'
    obtain ⟨H4, e4⟩ : ∃ H4, H4 = upd H3 R' (.lst (ws.map V.str)) := ⟨_, rfl⟩
    have s4 : Same H3 H4 := by rw [e4]; exact Same.upd_new hR'
    have h4 : H4 R' = some (.lst (ws.map V.str)) := by rw [e4, upd_same]
    rw [← e4]
    have B4 := B3.same s4
    have nR' := B3.fresh hR'
    have k03 := (k1.trans k2).trans k3
    have hR0 : H R' = none := keep_none k03 nR'.1 nR'.2.1 hR'
    obtain ⟨wa, ha1, ha2⟩ : ∃ w, atI (ws.map V.str) r2 = some (.str w) ∧ ws[r2.toNat]? = some w := by
      obtain ⟨v, e1, e2⟩ := atI_in (xs := ws.map V.str) r20 (by rw [lw]; exact r21)
      rw [List.getElem?_map] at e2
      obtain ⟨w, hw, rfl⟩ := Option.map_eq_some_iff.mp e2
      exact ⟨w, e1, hw⟩
    obtain ⟨wt, ht1, ht2⟩ : ∃ w, atI (ws.map V.str) r3 = some (.str w) ∧ ws[r3.toNat]? = some w := by
      obtain ⟨v, e1, e2⟩ := atI_in (xs := ws.map V.str) r30 (by rw [lw]; exact r31)
      rw [List.getElem?_map] at e2
      obtain ⟨w, hw, rfl⟩ := Option.map_eq_some_iff.mp e2
      exact ⟨w, e1, hw⟩
    have KH : ∀ H5 : Hp, (∀ y o, y ≠ R' → H4 y = some o → H5 y = some o) → Keep2 b g H H5 := fun H5 k5 x o a1 a2 e => by
      have e3 := k03 x o a1 a2 e
      exact k5 x o (ne_of_none e3 hR') (s4 _ _ e3)
    refine mid_of (fun σ H5 => σ = [some (.ref b), some (.ref R'), some (.int r1), some (.int r2), some (.int r3)] ∧ (∃ vs', H5 R' = some (.lst (vs'.map V.str)) ∧ RowC ws vs' ∧ (r1 ≠ 0 → vs' = ws)) ∧ BoxAt H5 b g l (n + 1 + 1 + 1) ∧ ∀ y o, y ≠ R' → H4 y = some o → H5 y = some o) ?_ ?_
    · walk_at "go"
      refine ifD (fun c => ?_) (fun c => ?_)
      · have c := V.int.inj c
        have hsi : seqIndex? r2 (ws.map V.str).length = some r2.toNat := seqIndex_of r20 (by rw [lw]; omega)
        have hzv : (ws.map V.str)[r2.toNat]? = some (.str wa) := by rw [List.getElem?_map, ha2] <;> rfl
        walk_at "go"
        refine wait ⟨rfl, ⟨ws.eraseIdx r2.toNat, ?_, rowc_pop ha2, fun z => absurd c z⟩, B4.upd nR', fun y o n e => upd_get n e⟩
        rw [upd_same, erase_map]
      · exact wait ⟨rfl, ⟨ws, h4, rowc_same ws, fun _ => rfl⟩, B4, fun _ _ _ e => e⟩
    rintro σ H5 ⟨rfl, ⟨v5, h5, rc5, es5⟩, B5, k5⟩
    refine mid_of (fun σ H6 => σ = [some (.ref b), some (.ref R'), some (.int r1), some (.int r2), some (.int r3)] ∧ (∃ vs', H6 R' = some (.lst (vs'.map V.str)) ∧ RowC ws vs' ∧ (r1 ≠ 0 → r1 ≠ 1 → vs' = ws)) ∧ BoxAt H6 b g l (n + 1 + 1 + 1) ∧ ∀ y o, y ≠ R' → H4 y = some o → H6 y = some o) ?_ ?_
    · walk_at "go"
      refine ifD (fun c => ?_) (fun c => ?_)
      · have c := V.int.inj c
        have e5 := es5 (by omega)
        subst e5
        walk_at "go"
        refine wait ⟨rfl, ⟨v5.take r3.toNat ++ [wa] ++ v5.drop r3.toNat, ?_, rowc_ins (List.mem_of_getElem? ha2), fun _ z => absurd c z⟩, B5.upd nR', fun y o n e => upd_get n (k5 y o n e)⟩
        rw [upd_same, List.map_append, List.map_append, List.map_take, List.map_drop] <;> rfl
      · exact wait ⟨rfl, ⟨v5, h5, rc5, fun a _ => es5 a⟩, B5, k5⟩
    rintro σ H6 ⟨rfl, ⟨v6, h6, rc6, es6⟩, B6, k6⟩
    refine mid_of (fun σ H7 => σ = [some (.ref b), some (.ref R'), some (.int r1), some (.int r2), some (.int r3)] ∧ (∃ vs', H7 R' = some (.lst (vs'.map V.str)) ∧ RowC ws vs') ∧ BoxAt H7 b g l (n + 1 + 1 + 1) ∧ ∀ y o, y ≠ R' → H4 y = some o → H7 y = some o) ?_ ?_
    · walk_at "go"
      refine ifD (fun c => ?_) (fun c => ?_)
      · have c := V.int.inj c
        have e6 := es6 (by omega) (by omega)
        subst e6
        walk_at "go"
        intro p7 hp7
        obtain ⟨H7, e7⟩ : ∃ H7, H7 = upd H6 p7 (.tup [.str wt, .str wa]) := ⟨_, rfl⟩
        have s7 : Same H6 H7 := by rw [e7]; exact Same.upd_new hp7
        have h77 : H7 p7 = some (.tup [.str wt, .str wa]) := by rw [e7, upd_same]
        rw [← e7]
        have h67 := s7 _ _ h6
        have ix1 : ixN (v6.map V.str).length r2 = some r2.toNat := by
          unfold ixN
          rw [if_pos r20, if_pos (by rw [lw]; exact r21)]
        have ix2 : ixN ((v6.map V.str).set r2.toNat (.str wt)).length r3 = some r3.toNat := by
          unfold ixN
          rw [if_pos r30, if_pos (by rw [List.length_set, lw]; exact r31)]
        have B7 := B6.same s7
        walk_at "go"
        refine wait ⟨rfl, ⟨(v6.set r2.toNat wt).set r3.toNat wa, ?_, rowc_swap ha2 ht2⟩, (B7.upd nR').upd nR', fun y o n e => upd_get n (upd_get n (s7 _ _ (k6 y o n e)))⟩
        rw [upd_same, List.map_set, List.map_set]
      · exact wait ⟨rfl, ⟨v6, h6, rc6⟩, B6, k6⟩
    rintro σ H7 ⟨rfl, ⟨v7, h7, rc7⟩, B7, k7⟩
    walk_at "go"
    exact q R' v7 _ H7 hR0 h7 rc7 B7 (by omega) (KH H7 k7)
end
end Pf
set_option Elab.async false
set_option linter.all false
set_option maxRecDepth 100000
set_option maxHeartbeats 4000000
namespace Pf
open PySem L2
local macro_rules | `(tactic| walk_at "nz") => `(tactic| (show (_ : Int) ≠ 0; omega))
local macro_rules | `(tactic| walk_at "ne") => `(tactic| first | assumption | (apply Ne.symm; assumption))
local macro_rules | `(tactic| walk_at "hp") => `(tactic| first | assumption | exact upd_same | (refine upd_get ?_ ?_; walk_at "ne"; walk_at "hp"))
local macro_rules | `(tactic| walk_at "sd") => `(tactic| first
  | (with_reducible show (_ : Int) < _; omega)
  | (with_reducible show (_ : Int) ≤ _; omega)
  | (with_reducible show (_ : Nat) < _; omega)
  | (with_reducible show (_ : Nat) ≤ _; omega)
  | rfl
  | assumption
  | exact kV_int _
  | exact kV_str _
  | (show (_ : Int) ≠ 0; omega)
  | exact SqL.of (by walk_at "hp")
  | exact ⟨_, SqL.of (by walk_at "hp")⟩
  | exact ⟨_, SqT.of (by walk_at "hp")⟩
  | exact ⟨_, (by assumption)⟩
  | exact SqT.of (by walk_at "hp")
  | exact Rd.of (by walk_at "hp")
  | exact Or.inl (SqL.of (by walk_at "hp"))
  | exact Or.inr (SqT.of (by walk_at "hp"))
  | exact Or.inr (by assumption)
  | (walk_at "hp")
  | (exact Or.inl ⟨rfl, _, SqL.of (by walk_at "hp")⟩)
  | (exact Or.inl ⟨by omega, by omega⟩)
  | (exact Or.inr ⟨by omega, by omega⟩)
  | (refine ⟨?_, ?_, ?_⟩ <;> omega)
  | omega
  | (exact small_le (by first | omega | (simp only [List.length_cons, List.length_nil]; omega)))
  | (exact small_lt (by first | omega | (simp only [List.length_cons, List.length_nil]; omega)))
  | exact Nat.le_of_ble_eq_true rfl
  | exact ⟨_, rfl⟩
  | decide)
local macro_rules | `(tactic| walk_at "st") => `(tactic| first
  | with_reducible refine sq_seq ?_
  | apply Exists.intro
  | (refine And.intro ?_ ?_; (walk_at "sd")))
local macro_rules | `(tactic| walk_at "go") => `(tactic| repeat (walk_at "st"))
section
variable {P : Program} {w : World} {K : PySem.W.Frag} {mg : Str → Option Value} {base : Heap} {a : Ad}
theorem strOk_iff {w : Str} : PyData.strOk w = true ↔ ∀ c ∈ TL.tl w, c < 1114112 := by
  unfold PyData.strOk
  rw [← Array.all_toList, List.all_eq_true]
  exact ⟨fun h c hc => of_decide_eq_true (h c hc), fun h c hc => decide_eq_true (h c hc)⟩
theorem strOk_app {x y : Str} (h1 : PyData.strOk x = true) (h2 : PyData.strOk y = true) : PyData.strOk (x ++ y) = true := by
  rw [strOk_iff] at h1 h2 ⊢
  rw [TL.tl_append]
  intro c hc
  rcases List.mem_append.mp hc with z | z
  · exact h1 c z
  · exact h2 c z
theorem cutS_le (z : Str) (lo hi : Option Int) : (cutS z lo hi).length ≤ z.length := by
  rw [TL.len_tl, TL.len_tl]
  show ((TL.tl z).drop _ |>.take _).length ≤ _
  rw [List.length_take, List.length_drop]
  omega
theorem cutS_ok {z : Str} (h : PyData.strOk z = true) (lo hi : Option Int) : PyData.strOk (cutS z lo hi) = true := by
  rw [strOk_iff] at h ⊢
  intro c hc
  have hc : c ∈ ((TL.tl z).drop (HT.sIx z.length 0 lo)).take (HT.sIx z.length z.length hi - HT.sIx z.length 0 lo) := hc
  exact h c (List.mem_of_mem_drop (List.mem_of_mem_take hc))
/-- a text not much longer than twice another -/
structure Chg (x y : Str) : Prop where
  len : y.length ≤ 2 * x.length + 20
  ok : PyData.strOk y = true
theorem sep_ok : PyData.strOk (" " : Str) = true ∧ PyData.strOk ("\n" : Str) = true := by decide +kernel
theorem join_len0 {y : Str} {c : Nat} (s : Sep y c) (ws : List Str) : (Txt.join y ws).length ≤ tot ws ∧ (ws ≠ [] → (Txt.join y ws).length + 1 = tot ws) := by
  by_cases h : ws = []
  · refine ⟨?_, fun z => absurd h z⟩
    have : TL.tl (Txt.join y ws) = [] := by rw [s.jl, h] <;> rfl
    rw [TL.len_tl, this]
    exact Nat.zero_le _
  · have := s.jlen h
    unfold tot
    exact ⟨by omega, fun _ => this⟩
theorem split_tot {y : Str} {c : Nat} (s : Sep y c) (x : Str) : tot (Txt.split x y) = x.length + 1 := s.len x
theorem chg_row {x : Str} {ws : List Str} (ok : PyData.strOk x = true) (h : RowC (Txt.split x "\n") ws) : Chg x (Txt.join "\n" ws) := by
  have t := h.tot
  rw [split_tot sepN] at t
  have j := join_len0 sepN ws
  refine ⟨by omega, join_ok sep_ok.2 fun w hw => (sepN.piece (h.sub w hw)).2 ok⟩
theorem chg_set {x l l' : Str} {i : Nat} (ok : PyData.strOk x = true) (hi : (Txt.split x "\n")[i]? = some l) (h1 : l'.length ≤ 2 * l.length + 15) (h2 : PyData.strOk l' = true) : Chg x (Txt.join "\n" ((Txt.split x "\n").set i l')) := by
  have e := sum_set (x := l') hi
  have t := split_tot sepN x
  have hl := (sepN.piece (List.mem_of_getElem? hi)).1
  have j := join_len0 sepN ((Txt.split x "\n").set i l')
  have hne := sepN.some x
  refine ⟨?_, join_ok sep_ok.2 fun w hw => ?_⟩
  · have j2 := j.2 (fun z => hne (by have := congrArg List.length z; rw [List.length_set] at this; exact List.eq_nil_of_length_eq_zero this))
    unfold tot at j2 t
    rw [List.length_set] at j2
    have hm := mem_sum (List.mem_of_getElem? hi)
    omega
  · rcases List.mem_or_eq_of_mem_set hw with z | z
    · exact (sepN.piece z).2 ok
    · rw [z]; exact h2
theorem odd_row {x : Str} {ws : List Str} (ok : PyData.strOk x = true) (h : RowC (Txt.split x " ") ws) : (Txt.join " " ws).length ≤ 2 * x.length + 15 ∧ PyData.strOk (Txt.join " " ws) = true := by
  have t := h.tot
  rw [split_tot sepB] at t
  have j := join_len0 sepB ws
  exact ⟨by omega, join_ok sep_ok.1 fun w hw => (sepB.piece (h.sub w hw)).2 ok⟩
theorem odd_ins {x o : Str} {k : Nat} (ok : PyData.strOk x = true) (ho : PyData.strOk o = true) (lo : o.length ≤ 8) : (Txt.join " " ((Txt.split x " ").take k ++ [o] ++ (Txt.split x " ").drop k)).length ≤ 2 * x.length + 15 ∧ PyData.strOk (Txt.join " " ((Txt.split x " ").take k ++ [o] ++ (Txt.split x " ").drop k)) = true := by
  have p : ((Txt.split x " ").take k ++ [o] ++ (Txt.split x " ").drop k).Perm (o :: Txt.split x " ") := by
    have := List.perm_middle (a := o) (l₁ := (Txt.split x " ").take k) (l₂ := (Txt.split x " ").drop k)
    rw [List.take_append_drop] at this
    rw [List.append_assoc]
    exact this
  have hs := sum_perm p
  have hl := p.length_eq
  rw [List.map_cons, List.sum_cons] at hs
  rw [List.length_cons] at hl
  have t := split_tot sepB x
  have j := join_len0 sepB ((Txt.split x " ").take k ++ [o] ++ (Txt.split x " ").drop k)
  unfold tot at t j
  refine ⟨by omega, join_ok sep_ok.1 fun w hw => ?_⟩
  rcases List.mem_cons.mp (p.mem_iff.mp hw) with rfl | z
  · exact ho
  · exact (sepB.piece z).2 ok
theorem split_many {y : Str} {c : Nat} (s : Sep y c) (x : Str) : 1 ≤ (Txt.split x y).length ∧ (Txt.split x y).length ≤ x.length + 1 := by
  have := s.len x
  have h := s.some x
  exact ⟨List.length_pos_iff.mpr h, by omega⟩
theorem join_fits {y : Str} (hy : y.length = 1) {ws : List Str} {n : Nat} (h : tot ws ≤ n) (hn : n ≤ 100000) : (ws.map (·.length)).sum + ws.length * y.length ≤ 16777216 := by
  unfold tot at h
  rw [hy]
  omega
def spChanged : Sp := fun vs H Q _ => ∃ (b g l : Addr) (n : Int) (page : Str), vs = [.ref b, .str page] ∧ BoxAt H b g l n ∧ n ≤ 700000 ∧ page.length ≤ 10000 ∧ PyData.strOk page = true ∧
  ∀ (page' : Str) (n' : Int) (H' : Hp), Chg page page' → BoxAt H' b g l n' → n' ≤ n + 30 → Keep2 b g H H' → Q (.str page') H'
theorem ok__law_changed (T : Txt K mg a) : FnOk P w K mg base CX0 4 a.f__law_changed a.d__law_changed ["_law_box_here", "_law_page"] spChanged := by
  have G__law_take := ok__law_take (P := P) (w := w) (base := base) T
  have G__law_row_changed := ok__law_row_changed (P := P) (w := w) (base := base) T
  have G__law_name := ok__law_name (P := P) (w := w) (base := base) T
  have cl_Pacts := T.cl_Pacts
  have na_Pacts_kept_pairs := T.na_Pacts_kept_pairs
  have na_Pacts_kept_pacts := T.na_Pacts_kept_pacts
  refine T.F__law_changed.ok sc__law_changed (fun vs H Q E h => ?_) (fun cdv A outer s H vs Q E hr h => ?_)
  · obtain ⟨b, g, l, n, page, rfl, _⟩ := h
    rfl
  · obtain ⟨b, g, l, n, page, rfl, B, hn, hl, ok, q⟩ := h
    have hsz : page.length + 2 ≤ sizeLine := small_le (by omega)
    have hsz2 : page.length ≤ sizeLine := small_le (by omega)
    have many := split_many sepN page
    have lB : (" " : Str).length = 1 := by decide +kernel
    have lN : ("\n" : Str).length = 1 := by decide +kernel
    refine ⟨_, (pss_cons (ps_set (i := 2) sc__law_changed.nd rfl (Or.inl rfl) (pe_call G__law_take (hr.mono (by decide)) rfl T.m__law_take T.F__law_take.kp T.b__law_take .nil pass0 (pa_cons (pv 0) (pa_cons pe_int pa_nil))))
      (pss_cons (ps_set (i := 3) sc__law_changed.nd rfl (Or.inl rfl) (pe_split (pv 1) pe_str))
      (pss_cons (ps_set (i := 4) sc__law_changed.nd rfl (Or.inl rfl) (pe_call G__law_take (hr.mono (by decide)) rfl T.m__law_take T.F__law_take.kp T.b__law_take .nil pass0 (pa_cons (pv 0) (pa_cons (pe_callB call_lenK (by rfl) T.z_len PySem.boot_len (pa_cons (pv 3) pa_nil)) pa_nil))))
      (pss_cons (ps_set (i := 5) sc__law_changed.nd rfl (Or.inl rfl) (pe_call G__law_take (hr.mono (by decide)) rfl T.m__law_take T.F__law_take.kp T.b__law_take .nil pass0 (pa_cons (pv 0) (pa_cons (pe_op op_add (pe_callB call_len_str (by rfl) T.z_len PySem.boot_len (pa_cons (pv 1) pa_nil)) pe_int) pa_nil))))
      (pss_mid (ps_if (pt_cmpR op_eq (pv 2) pe_int (nomark _)) (pss_one (ps_asg (pe_join pe_str (pe_call G__law_row_changed (hr.mono (by decide)) rfl T.m__law_row_changed T.F__law_row_changed.kp T.b__law_row_changed .nil pass0 (pa_cons (pv 0) (pa_cons (pe_split (pe_ix ix_list (pv 3) (pv 4) (fun _ _ => rfl)) pe_str) pa_nil)))) (pg_sub (pv 3) (pv 4) set_list))) pss_nil)
      (pss_cons (ps_if (pt_cmpR op_eq (pv 2) pe_int (nomark _)) (pss_one (ps_ret (pe_join pe_str (pe_call G__law_row_changed (hr.mono (by decide)) rfl T.m__law_row_changed T.F__law_row_changed.kp T.b__law_row_changed .nil pass0 (pa_cons (pv 0) (pa_cons (pv 3) pa_nil)))))) pss_nil)
      (pss_mid (ps_if (pt_cmpR op_eq (pv 2) pe_int (nomark _)) (pss_cons (ps_set (i := 6) sc__law_changed.nd rfl (Or.inl rfl) (pe_split (pe_ix ix_list (pv 3) (pv 4) (fun _ _ => rfl)) pe_str))
      (pss_cons (ps_set (i := 7) sc__law_changed.nd rfl (Or.inl rfl) (pe_lst (pa_cons pe_str (pa_cons pe_str (pa_cons pe_str (pa_cons pe_str (pa_cons pe_str (pa_cons pe_str (pa_cons pe_str (pa_cons pe_str (pa_cons pe_str (pa_cons pe_str (pa_cons pe_str (pa_cons (pe_call G__law_name (hr.mono (by decide)) rfl T.m__law_name T.F__law_name.kp T.b__law_name .nil pass0 (pa_cons (pv 0) pa_nil)) pa_nil))))))))))))))
      (pss_cons (ps_expr (pe_bm PySem.F.plainAttrs_list PySem.F.slot_list_insert PySem.F.type_list_insert mt_insert (pv 6) (pa_cons (pe_call G__law_take (hr.mono (by decide)) rfl T.m__law_take T.F__law_take.kp T.b__law_take .nil pass0 (pa_cons (pv 0) (pa_cons (pe_op op_add (pe_callB call_lenK (by rfl) T.z_len PySem.boot_len (pa_cons (pv 6) pa_nil)) pe_int) pa_nil))) (pa_cons (pe_ix ix_list (pv 7) (pe_call G__law_take (hr.mono (by decide)) rfl T.m__law_take T.F__law_take.kp T.b__law_take .nil pass0 (pa_cons (pv 0) (pa_cons pe_int pa_nil))) (fun _ _ => rfl)) pa_nil))))
      (pss_one (ps_asg (pe_join pe_str (pv 6)) (pg_sub (pv 3) (pv 4) set_list)))))) pss_nil)
      (pss_cons (ps_if (pt_cmpR op_lt (pv 2) pe_int (nomark _)) (pss_one (ps_ret (pe_join pe_str (pv 3)))) pss_nil)
      (pss_cons (ps_set (i := 8) sc__law_changed.nd rfl (Or.inl rfl) pe_str)
      (pss_cons (ps_set (i := 9) sc__law_changed.nd rfl (Or.inl rfl) (pe_ix ix_str (pv 8) (pe_call G__law_take (hr.mono (by decide)) rfl T.m__law_take T.F__law_take.kp T.b__law_take .nil pass0 (pa_cons (pv 0) (pa_cons (pe_callB call_len_str (by rfl) T.z_len PySem.boot_len (pa_cons (pv 8) pa_nil)) pa_nil))) (fun _ _ => rfl)))
      (pss_one (ps_ret (pe_op op_add_str (pe_op op_add_str (pe_slice sl_str (pv 1) po_none (po_some (pv 5))) (pe_ix ix_list (pe_lst (pa_cons (pv 9) (pa_cons (pv 9) (pa_cons pe_str pa_nil)))) (pe_op op_sub (pv 2) pe_int) (fun _ _ => rfl))) (pe_slice sl_str (pv 1) (po_some (pe_op op_add (pv 5) (pe_ix ix_list (pe_lst (pa_cons pe_int (pa_cons pe_int (pa_cons pe_int pa_nil)))) (pe_op op_sub (pv 2) pe_int) (fun _ _ => rfl)))) po_none)))))))))))))), ?_⟩
    walk_at "go"
    intro r1 H1 r10 r11 B1 k1
    walk_at "go"
    intro S hS
    obtain ⟨ls, els⟩ : ∃ ls, ls = Txt.split page "\n" := ⟨_, rfl⟩
    rw [← els] at many
    obtain ⟨H2, e2⟩ : ∃ H2, H2 = upd H1 S (.lst (ls.map V.str)) := ⟨_, rfl⟩
    have s2 : Same H1 H2 := by rw [e2]; exact Same.upd_new hS
    have h2 : H2 S = some (.lst (ls.map V.str)) := by rw [e2, upd_same]
    rw [← els, ← e2]
    have B2 := B1.same s2
    have nS := B1.fresh hS
    have nSb := nS.1
    have nSg := nS.2.1
    have lls : (ls.map V.str).length = ls.length := List.length_map _
    walk_at "go"
    intro r3 H3 r30 r31 B3 k3
    rw [lls] at r31
    have h3 := k3 _ _ nSb nSg h2
    walk_at "go"
    intro r4 H4 r40 r41 B4 k4
    have h4 := k4 _ _ nSb nSg h3
    obtain ⟨ln, hat, hln⟩ : ∃ w, atI (ls.map V.str) r3 = some (.str w) ∧ ls[r3.toNat]? = some w := by
      obtain ⟨v, e1, e2⟩ := atI_in (xs := ls.map V.str) r30 (by rw [lls]; exact r31)
      rw [List.getElem?_map] at e2
      obtain ⟨w, hw, rfl⟩ := Option.map_eq_some_iff.mp e2
      exact ⟨w, e1, hw⟩
    have hln2 : (Txt.split page "\n")[r3.toNat]? = some ln := by rw [← els]; exact hln
    have lpiece := sepN.piece (List.mem_of_getElem? hln2)
    have okl := lpiece.2 ok
    have hlsz : ln.length + 2 ≤ sizeLine := small_le (by omega)
    have k04 : Keep2 b g H H4 := k1.trans (fun x o a1 a2 e => k4 x o a1 a2 (k3 x o a1 a2 (s2 _ _ e)))
    have ix : ∀ xs : List V, xs.length = ls.length → ixN xs.length r3 = some r3.toNat := fun xs hx => by
      unfold ixN
      rw [if_pos r30, if_pos (by rw [hx]; exact r31)]
    have ix1 := ix (ls.map V.str) lls
    refine mid_of (fun σ H5 => σ = [some (.ref b), some (.str page), some (.int r1), some (.ref S), some (.int r3), some (.int r4), none, none, none, none] ∧ (∃ l', H5 S = some (.lst (l'.map V.str)) ∧ (r1 = 0 → Chg page (Txt.join "\n" l') ∧ tot l' ≤ 60000) ∧ (r1 ≠ 0 → l' = ls)) ∧ (∃ n5, BoxAt H5 b g l n5 ∧ n5 ≤ n + 6) ∧ Keep2 b g H H5) ?_ ?_
    · walk_at "go"
      refine ifD (fun c => ?_) (fun c => ?_)
      · have c := V.int.inj c
        walk_at "go"
        intro W hW
        obtain ⟨ws, ews⟩ : ∃ ws, ws = Txt.split ln " " := ⟨_, rfl⟩
        have manyw := split_many sepB ln
        rw [← ews] at manyw
        obtain ⟨H5, e5⟩ : ∃ H5, H5 = upd H4 W (.lst (ws.map V.str)) := ⟨_, rfl⟩
        have s5 : Same H4 H5 := by rw [e5]; exact Same.upd_new hW
        have h5 : H5 W = some (.lst (ws.map V.str)) := by rw [e5, upd_same]
        rw [← ews]
        show tNil _ (upd H4 W (.lst (ws.map V.str))) _
        rw [← e5]
        have B5 := B4.same s5
        have nW := B4.fresh hW
        have nWb := nW.1
        have nWg := nW.2.1
        have lw1 := manyw.1
        have lw2 : ws.length ≤ 50000 := by omega
        have h45 := s5 _ _ h4
        walk_at "go"
        intro R' vs' n6 H6 hR' h6 rc B6 hn6 k6
        have h46 := k6 _ _ nSb nSg h45
        have rct := rc.tot
        have rc2 : RowC (Txt.split ln " ") vs' := by rw [← ews]; exact rc
        have oj := odd_row okl rc2
        have t1 := split_tot sepB ln
        rw [← ews] at t1
        have hsum : (vs'.map (·.length)).sum + vs'.length * (" " : Str).length ≤ 16777216 := join_fits lB rct (by omega)
        walk_at "go"
        have es := sum_set (x := Txt.join " " vs') hln
        have ts := split_tot sepN page
        rw [← els] at ts
        refine wait ⟨rfl, ⟨ls.set r3.toNat (Txt.join " " vs'), ?_, fun _ => ⟨?_, ?_⟩, fun z => absurd c z⟩, ⟨n6, B6.upd nS, by omega⟩, ?_⟩
        · rw [upd_same, List.map_set]
        · rw [els]
          exact chg_set ok hln2 oj.1 oj.2
        · unfold tot at ts ⊢
          rw [List.length_set]
          omega
        · exact fun x o a1 a2 e => upd_get (fun z => by
            rw [z] at e
            have := k1 _ _ nSb nSg e
            rw [hS] at this
            cases this) (k6 x o a1 a2 (s5 _ _ (k04 x o a1 a2 e)))
      · have c : ¬ r1 = 0 := fun z => c (congrArg V.int z)
        exact wait ⟨rfl, ⟨ls, h4, fun z => absurd z c, fun _ => rfl⟩, ⟨_, B4, by omega⟩, k04⟩
    rintro σ H5 ⟨rfl, ⟨l5, h5, c50, c51⟩, ⟨n5, B5, hn5⟩, k5⟩
    walk_at "go"
    refine ifD (fun c => ?_) (fun c => ?_)
    · have c := V.int.inj c
      have e5 := c51 (by omega)
      subst e5
      have lw1 := many.1
      have lw2 : l5.length ≤ 50000 := by omega
      walk_at "go"
      intro R' vs' n6 H6 hR' h6 rc B6 hn6 k6
      have rct := rc.tot
      have t1 := split_tot sepN page
      rw [← els] at t1
      have rc2 : RowC (Txt.split page "\n") vs' := by rw [← els]; exact rc
      have hsum : (vs'.map (·.length)).sum + vs'.length * ("\n" : Str).length ≤ 16777216 := join_fits lN rct (by omega)
      walk_at "go"
      exact q _ n6 H6 (chg_row ok rc2) B6 (by omega) (k5.trans k6)
    have c : ¬ r1 = 1 := fun z => c (congrArg V.int z)
    refine mid_of (fun σ H6 => (∃ u6 u7, σ = [some (.ref b), some (.str page), some (.int r1), some (.ref S), some (.int r3), some (.int r4), u6, u7, none, none]) ∧ (∃ l', H6 S = some (.lst (l'.map V.str)) ∧ ((r1 = 0 ∨ r1 = 2) → Chg page (Txt.join "\n" l') ∧ tot l' ≤ 60000)) ∧ (∃ n6, BoxAt H6 b g l n6 ∧ n6 ≤ n + 20) ∧ Keep2 b g H H6) ?_ ?_
    · walk_at "go"
      refine ifD (fun c2 => ?_) (fun c2 => ?_)
      · have c2 := V.int.inj c2
        have e5 := c51 (by omega)
        subst e5
        walk_at "go"
        intro W hW
        obtain ⟨ws, ews⟩ : ∃ ws, ws = Txt.split ln " " := ⟨_, rfl⟩
        have manyw := split_many sepB ln
        rw [← ews] at manyw
        obtain ⟨H6, e6⟩ : ∃ H6, H6 = upd H5 W (.lst (ws.map V.str)) := ⟨_, rfl⟩
        have s6 : Same H5 H6 := by rw [e6]; exact Same.upd_new hW
        have h6 : H6 W = some (.lst (ws.map V.str)) := by rw [e6, upd_same]
        rw [← ews]
        have B6 := B5.same s6
        have nW := B5.fresh hW
        have lws : (ws.map V.str).length = ws.length := List.length_map _
        show tSeq _ _ _ _ (upd H5 W (.lst (ws.map V.str)))
        rw [← e6]
        walk_at "go"
        intro nm n7 H7 isn B7 hn7 k7
        have h57 := k7 _ _ nSb nSg (s6 _ _ h5)
        have h67 := k7 _ _ nW.1 nW.2.1 h6
        walk_at "go"
        intro O hO
        obtain ⟨os, eos⟩ : ∃ os : List Str, os = (["word", "helper", "lent", "given", "gives", "throws", "laden", "0", "1", "2", "", nm] : List Str) := ⟨_, rfl⟩
        obtain ⟨H8, e8⟩ : ∃ H8, H8 = upd H7 O (.lst (os.map V.str)) := ⟨_, rfl⟩
        have s8 : Same H7 H8 := by rw [e8]; exact Same.upd_new hO
        have h8 : H8 O = some (.lst (os.map V.str)) := by rw [e8, upd_same]
        have e8' : upd H7 O (.lst [.str "word", .str "helper", .str "lent", .str "given", .str "gives", .str "throws", .str "laden", .str "0", .str "1", .str "2", .str "", .str nm]) = H8 := by
          rw [e8, eos] <;> rfl
        have oos : ∀ w ∈ os, PyData.strOk w = true ∧ w.length ≤ 8 := fun w hw => by
          rw [eos] at hw
          have hc : ∀ w ∈ (["word", "helper", "lent", "given", "gives", "throws", "laden", "0", "1", "2", ""] : List Str), PyData.strOk w = true ∧ w.length ≤ 8 := by decide +kernel
          by_cases z : w = nm
          · rw [z]; exact ⟨isn.ok, isn.hi⟩
          · refine hc w ?_
            simp only [List.mem_cons, List.not_mem_nil, or_false] at hw ⊢
            simp only [z, or_false] at hw
            exact hw
        have los : os.length = 12 := by rw [eos] <;> rfl
        have B8 := B7.same s8
        have nO := B7.fresh hO
        have h58 := s8 _ _ h57
        have h68 := s8 _ _ h67
        show tSeq _ _ _ _ (upd H7 O (.lst [.str "word", .str "helper", .str "lent", .str "given", .str "gives", .str "throws", .str "laden", .str "0", .str "1", .str "2", .str "", .str nm]))
        rw [e8']
        walk_at "go"
        intro r9 H9 r90 r91 B9 k9
        rw [lws] at r91
        have h89 := k9 _ _ nO.1 nO.2.1 h8
        have h69 := k9 _ _ nW.1 nW.2.1 h68
        have h59 := k9 _ _ nSb nSg h58
        walk_at "go"
        intro ra Ha ra0 ra1 Ba ka
        have h8a := ka _ _ nO.1 nO.2.1 h89
        have h6a := ka _ _ nW.1 nW.2.1 h69
        have h5a := ka _ _ nSb nSg h59
        obtain ⟨o, hao, hmo⟩ := strs_at' (ws := os) ra0 (by rw [los]; exact ra1)
        obtain ⟨vs', evs⟩ : ∃ vs' : List Str, vs' = ws.take r9.toNat ++ [o] ++ ws.drop r9.toNat := ⟨_, rfl⟩
        have nSW : S ≠ W := ne_of_none h5 hW
        have hWb : upd Ha W (.lst ((ws.map V.str).take r9.toNat ++ [V.str o] ++ (ws.map V.str).drop r9.toNat)) W = some (.lst (vs'.map V.str)) := by rw [upd_same, evs, List.map_append, List.map_append, List.map_take, List.map_drop] <;> rfl
        have h5b : upd Ha W (.lst ((ws.map V.str).take r9.toNat ++ [V.str o] ++ (ws.map V.str).drop r9.toNat)) S = some (.lst (l5.map V.str)) := upd_get nSW h5a
        have Bb : BoxAt (upd Ha W (.lst ((ws.map V.str).take r9.toNat ++ [V.str o] ++ (ws.map V.str).drop r9.toNat))) b g l (n7 + 1 + 1) := Ba.upd nW
        have oo := oos o hmo
        have oj := odd_ins (x := ln) (k := r9.toNat) okl oo.1 oo.2
        rw [← ews, ← evs] at oj
        have tvs : tot vs' ≤ 20100 := by
          have p : vs'.Perm (o :: ws) := by
            rw [evs]
            have := List.perm_middle (a := o) (l₁ := ws.take r9.toNat) (l₂ := ws.drop r9.toNat)
            rw [List.take_append_drop] at this
            rw [List.append_assoc]
            exact this
          have hs := sum_perm p
          have hl := p.length_eq
          rw [List.map_cons, List.sum_cons] at hs
          rw [List.length_cons] at hl
          have t := split_tot sepB ln
          rw [← ews] at t
          unfold tot at t ⊢
          omega
        have hsum : (vs'.map (·.length)).sum + vs'.length * (" " : Str).length ≤ 16777216 := join_fits lB tvs (by omega)
        walk_at "go"
        have es := sum_set (x := Txt.join " " vs') hln
        have ts := split_tot sepN page
        rw [← els] at ts
        refine wait ⟨⟨_, _, rfl⟩, ⟨l5.set r3.toNat (Txt.join " " vs'), ?_, fun _ => ⟨?_, ?_⟩⟩, ⟨n7 + 1 + 1, Bb.upd nS, by omega⟩, ?_⟩
        · rw [upd_same, List.map_set]
        · rw [els]
          exact chg_set ok hln2 oj.1 oj.2
        · unfold tot at ts ⊢
          rw [List.length_set]
          omega
        · intro x o a1 a2 e
          have e5 := k5 x o a1 a2 e
          have nxS : x ≠ S := fun z => by
            rw [z] at e
            have := k1 _ _ nSb nSg e
            rw [hS] at this
            cases this
          refine upd_get nxS ?_
          exact upd_get (ne_of_none e5 hW) (ka x o a1 a2 (k9 x o a1 a2 (s8 _ _ (k7 x o a1 a2 (s6 _ _ e5)))))
      · have c2 : ¬ r1 = 2 := fun z => c2 (congrArg V.int z)
        exact wait ⟨⟨_, _, rfl⟩, ⟨l5, h5, fun z => c50 (by omega)⟩, ⟨n5, B5, by omega⟩, k5⟩
    rintro σ H6 ⟨⟨u6, u7, rfl⟩, ⟨l6, h6, c60⟩, ⟨n6, B6, hn6⟩, k6⟩
    walk_at "go"
    refine ifD (fun c3 => ?_) (fun c3 => ?_)
    · have cc := c60 (by omega)
      have hsum : (l6.map (·.length)).sum + l6.length * ("\n" : Str).length ≤ 16777216 := join_fits lN cc.2 (by omega)
      walk_at "go"
      exact q _ n6 H6 cc.1 B6 (by omega) k6
    obtain ⟨sg, esg⟩ : ∃ sg : Str, sg = (" \n01abcdefghijklmnopqrstuvwxyzAZ-:" : Str) := ⟨_, rfl⟩
    have lsg : (" \n01abcdefghijklmnopqrstuvwxyzAZ-:" : Str).length = 34 := by decide +kernel
    have lsz : (" \n01abcdefghijklmnopqrstuvwxyzAZ-:" : Str).length ≤ sizeLine := small_le (by omega)
    walk_at "go"
    intro r7 H7 r70 r71 B7 k7
    obtain ⟨c8, hc8, hm8⟩ : ∃ c, atI (TL.tl (" \n01abcdefghijklmnopqrstuvwxyzAZ-:" : Str)) r7 = some c ∧ c ∈ TL.tl (" \n01abcdefghijklmnopqrstuvwxyzAZ-:" : Str) := by
      obtain ⟨v, e1, e2⟩ := atI_in (xs := TL.tl (" \n01abcdefghijklmnopqrstuvwxyzAZ-:" : Str)) r70 (by rw [← TL.len_tl]; exact r71)
      exact ⟨v, e1, List.mem_of_getElem? e2⟩
    have oks : PyData.strOk (⟨#[c8]⟩ : Str) = true := by
      have : PyData.strOk (" \n01abcdefghijklmnopqrstuvwxyzAZ-:" : Str) = true := by decide +kernel
      rw [strOk_iff] at this ⊢
      intro c hc
      rw [List.mem_singleton.mp hc]
      exact this c8 hm8
    walk_at "go"
    intro pA hpA
    obtain ⟨HA, eA⟩ : ∃ HA, HA = upd H7 pA (.lst [.str ⟨#[c8]⟩, .str ⟨#[c8]⟩, .str ""]) := ⟨_, rfl⟩
    have sA : Same H7 HA := by rw [eA]; exact Same.upd_new hpA
    have hA : HA pA = some (.lst [.str ⟨#[c8]⟩, .str ⟨#[c8]⟩, .str ""]) := by rw [eA, upd_same]
    rw [← eA]
    obtain ⟨md, hmd, okd, ld⟩ : ∃ md : Str, atI [V.str ⟨#[c8]⟩, .str ⟨#[c8]⟩, .str ""] (r1 - 3) = some (.str md) ∧ PyData.strOk md = true ∧ md.length ≤ 1 := by
      have : r1 = 3 ∨ r1 = 4 ∨ r1 = 5 := by omega
      rcases this with rfl | rfl | rfl
      · exact ⟨_, rfl, oks, Nat.le_refl _⟩
      · exact ⟨_, rfl, oks, Nat.le_refl _⟩
      · exact ⟨"", rfl, by decide +kernel, by decide +kernel⟩
    obtain ⟨jd, hjd⟩ : ∃ jd : Int, atI [V.int 0, .int 1, .int 1] (r1 - 3) = some (.int jd) := by
      have : r1 = 3 ∨ r1 = 4 ∨ r1 = 5 := by omega
      rcases this with rfl | rfl | rfl <;> exact ⟨_, rfl⟩
    obtain ⟨c1, ec1⟩ : ∃ c1, c1 = cutS page none (some r4) := ⟨_, rfl⟩
    have lc1 := cutS_le page none (some r4)
    have okc1 := cutS_ok ok none (some r4)
    rw [← ec1] at lc1 okc1 ⊢
    have z1 : c1.length + md.length ≤ sizeLine := small_le (by omega)
    walk_at "go"
    intro pB hpB
    obtain ⟨HB, eB⟩ : ∃ HB, HB = upd HA pB (.lst [.int 0, .int 1, .int 1]) := ⟨_, rfl⟩
    have sB : Same HA HB := by rw [eB]; exact Same.upd_new hpB
    have hB : HB pB = some (.lst [.int 0, .int 1, .int 1]) := by rw [eB, upd_same]
    rw [← eB]
    have lc2 := cutS_le page (some (r4 + jd)) none
    have okc2 := cutS_ok ok (some (r4 + jd)) none
    have z2 : (c1 ++ md).length + (cutS page (some (r4 + jd)) none).length ≤ sizeLine := small_le (by rw [Str.length_append]; omega)
    walk_at "go"
    refine q _ _ HB ⟨?_, strOk_app (strOk_app okc1 okd) okc2⟩ ((B7.same sA).same sB) (by omega) (k6.trans fun x o a1 a2 e => sB _ _ (sA _ _ (k7 x o a1 a2 e)))
    rw [Str.length_append, Str.length_append]
    omega
end
end Pf
set_option Elab.async false
set_option linter.all false
set_option maxRecDepth 100000
set_option maxHeartbeats 4000000
namespace Pf
open PySem L2
local macro_rules | `(tactic| walk_at "nz") => `(tactic| (show (_ : Int) ≠ 0; omega))
local macro_rules | `(tactic| walk_at "ne") => `(tactic| first | assumption | (apply Ne.symm; assumption))
local macro_rules | `(tactic| walk_at "hp") => `(tactic| first | assumption | exact upd_same | (refine upd_get ?_ ?_; walk_at "ne"; walk_at "hp"))
local macro_rules | `(tactic| walk_at "sd") => `(tactic| first
  | (with_reducible show (_ : Int) < _; omega)
  | (with_reducible show (_ : Int) ≤ _; omega)
  | (with_reducible show (_ : Nat) < _; omega)
  | (with_reducible show (_ : Nat) ≤ _; omega)
  | rfl
  | assumption
  | exact kV_int _
  | exact kV_str _
  | (show (_ : Int) ≠ 0; omega)
  | exact SqL.of (by walk_at "hp")
  | exact ⟨_, SqL.of (by walk_at "hp")⟩
  | exact ⟨_, SqT.of (by walk_at "hp")⟩
  | exact ⟨_, (by assumption)⟩
  | exact SqT.of (by walk_at "hp")
  | exact Rd.of (by walk_at "hp")
  | exact Or.inl (SqL.of (by walk_at "hp"))
  | exact Or.inr (SqT.of (by walk_at "hp"))
  | exact Or.inr (by assumption)
  | (walk_at "hp")
  | (exact Or.inl ⟨rfl, _, SqL.of (by walk_at "hp")⟩)
  | (exact Or.inl ⟨by omega, by omega⟩)
  | (exact Or.inr ⟨by omega, by omega⟩)
  | (refine ⟨?_, ?_, ?_⟩ <;> omega)
  | omega
  | (exact small_le (by first | omega | (simp only [List.length_cons, List.length_nil]; omega)))
  | (exact small_lt (by first | omega | (simp only [List.length_cons, List.length_nil]; omega)))
  | exact Nat.le_of_ble_eq_true rfl
  | exact ⟨_, rfl⟩
  | decide)
local macro_rules | `(tactic| walk_at "st") => `(tactic| first
  | with_reducible refine sq_seq ?_
  | apply Exists.intro
  | (refine And.intro ?_ ?_; (walk_at "sd")))
local macro_rules | `(tactic| walk_at "go") => `(tactic| repeat (walk_at "st"))
section
variable {P : Program} {w : World} {K : PySem.W.Frag} {mg : Str → Option Value} {base : Heap} {a : Ad}
local macro_rules | `(tactic| walk_at "sd") => `(tactic| exact fun _ h => h)
/-- what was made of a page -/
def Made (K : PySem.W.Frag) (C : Addr) (page : Str) (t : Addr) (H : Hp) : Prop :=
  (∃ (ps : List Pr) (hs : List Hl) (x kp kd : Addr) (L : List (Addr × Pr)) (M : List (Addr × Hl)), rdPre (linesOf page) = some (ps, hs) ∧ okPs ps ∧ okHs ps hs ∧ H t = some (.tup [.str "told", .ref x]) ∧ L.map (·.2) = ps ∧ M.map (·.2) = hs ∧ PactsH K C H x kp kd L M) ∨
  (∃ (ps : List Pr) (hs : List Hl) (z : Int), rdPre (linesOf page) = some (ps, hs) ∧ FB ps hs z ∧ z ≠ -1 ∧ H t = some (.tup [.str "NoPact", .int z])) ∨
  (∃ i : Nat, BadL (linesOf page) i ∧ H t = some (.tup [.str "NoText", .int i]))
def spMade (K : PySem.W.Frag) (C : Addr) : Sp := fun vs H Q _ => ∃ page : Str, vs = [.str page] ∧ page.length ≤ 7900 ∧ PyData.strOk page = true ∧ ∀ t H', Made K C page t H' → Same H H' → Q (.ref t) H'
theorem ok__law_made (T : Txt K mg a) : FnOk P w K mg base CX0 6 a.f__law_made a.d__law_made ["_law_page"] (spMade K a.c_Pacts) := by
  have G_read_pacts := ok_read_pacts (P := P) (w := w) (base := base) T
  have cl_Pacts := T.cl_Pacts
  have na_Pacts_kept_pairs := T.na_Pacts_kept_pairs
  have na_Pacts_kept_pacts := T.na_Pacts_kept_pacts
  refine T.F__law_made.ok sc__law_made (fun vs H Q E h => ?_) (fun cdv A outer s H vs Q E hr h => ?_)
  · obtain ⟨page, rfl, _⟩ := h
    rfl
  · obtain ⟨page, rfl, hl, ok, q⟩ := h
    have ec := T.ec_NoPact
    have ect := T.ec_NoText
    have k1 := kit_exm T.ex_NoPact_NoPact T.ex_NoPact_NoPact
    have k2 := kit_exm T.ex_NoPact_NoPact T.ex_NoPact_NoText
    have k3 := kit_bl T.ex_NoPact_ValueError (by decide +kernel)
    have t1 := kit_exm T.ex_NoText_NoText T.ex_NoText_NoText
    have t2 := kit_exm T.ex_NoText_NoText T.ex_NoText_NoPact
    have t3 := kit_bl T.ex_NoText_ValueError (by decide +kernel)
    refine ⟨_, (pss_cons (ps_set (i := 1) sc__law_made.nd rfl (Or.inl rfl) (pe_tup (pa_cons pe_str (pa_cons pe_int pa_nil))))
      (pss_mid (ps_try_cls (tb := fun W => (tAsg (tTup (tCons _ (tCons (tCallS _ (WE W) _) tNil))) (gName 1))) (l := [⟨.ref a.c_PactError, some 2, fun ea cls dd => (tSeq (tIfS (tAnd (tB (tCB (rIsW K ea cls dd) _)) (tAnd (tB (tCB (rIsW K ea cls dd) _)) (tNot (tB (tCB (rIsW K ea cls dd) _))))) (tAsg (tTup (tCons _ (tCons (tXf ea cls dd a.c_NoText "at" (tVar 2)) tNil))) (gName 1)) tNext) (tIfS (tAnd (tB (tCB (rIsW K ea cls dd) _)) (tNot (tB (tCB (rIsW K ea cls dd) _)))) (tAsg (tTup (tCons _ (tCons (tXf ea cls dd a.c_NoPact "at" (tVar 2)) tNil))) (gName 1)) tNext))⟩]) (Wout := fun _ _ _ _ => False) rfl rfl takes0 (fun W pn xe tk po => (pss_one (ps_set (i := 1) sc__law_made.nd rfl (Or.inl rfl) (pe_tup (pa_cons pe_str (pa_cons (pe_callS G_read_pacts (hr.mono (by decide)) rfl T.m_read_pacts T.F_read_pacts.kp T.b_read_pacts (fun σ => passAt tk σ) (by exact (pa_cons (pv 0) pa_nil))) pa_nil)))))) (ClsOk.named (i := 2) sc__law_made.nd rfl rfl ⟨rfl, by decide, Or.inl T.m_PactError⟩ (fun ea oe cls dd pn hz hf => (pss_cons (ps_if (PW.pt (pw_and (pt_val (pe_callB (call_isW hz hf) (by rfl) T.z_isinstance (by decide +kernel) (by exact (pa_cons (pv 2) (pa_cons (pe_glob (v := .ref a.c_NoText) rfl T.m_NoText rfl) pa_nil))))) (pw_and (pt_val (pe_callB (call_isW hz hf) (by rfl) T.z_isinstance (by decide +kernel) (by exact (pa_cons (pv 2) (pa_cons (pe_bltn (v := .ty "ValueError") (by rfl) T.z_ValueError (by decide +kernel) rfl) pa_nil))))) (pw_and1 (pt_not (pt_val (pe_callB (call_isW hz hf) (by rfl) T.z_isinstance (by decide +kernel) (by exact (pa_cons (pv 2) (pa_cons (pe_glob (v := .ref a.c_NoPact) rfl T.m_NoPact rfl) pa_nil)))))))))) (pss_one (ps_set (i := 1) sc__law_made.nd rfl (Or.inl rfl) (pe_tup (pa_cons pe_str (pa_cons (pe_xf T.xf_NoText T.na_NoText_at hz hf (pv 2)) pa_nil))))) pss_nil)
      (pss_one (ps_if (PW.pt (pw_and (pt_val (pe_callB (call_isW hz hf) (by rfl) T.z_isinstance (by decide +kernel) (by exact (pa_cons (pv 2) (pa_cons (pe_glob (v := .ref a.c_NoPact) rfl T.m_NoPact rfl) pa_nil))))) (pw_and1 (pt_not (pt_val (pe_callB (call_isW hz hf) (by rfl) T.z_isinstance (by decide +kernel) (by exact (pa_cons (pv 2) (pa_cons (pe_glob (v := .ref a.c_NoText) rfl T.m_NoText rfl) pa_nil))))))))) (pss_one (ps_set (i := 1) sc__law_made.nd rfl (Or.inl rfl) (pe_tup (pa_cons pe_str (pa_cons (pe_xf T.xf_NoPact T.na_NoPact_at hz hf (pv 2)) pa_nil))))) pss_nil)))) ClsOk.nil))
      (pss_one (ps_ret (pv 1))))), ?_⟩
    walk_at "go"
    intro p1 hp1
    obtain ⟨H1, e1⟩ : ∃ H1, H1 = upd H p1 (.tup [.str "other", .int 0]) := ⟨_, rfl⟩
    have s1 : Same H H1 := by rw [e1]; exact Same.upd_new hp1
    rw [← e1]
    refine mid_of (fun σ H' => (∃ t u2, σ = [some (.str page), some (.ref t), u2] ∧ Made K a.c_Pacts page t H') ∧ Same H H') ?_ ?_
    · walk_at "go"
      refine ⟨fun ps hs erd okP okH x kp kd L M H2 eL eM PH s2 => ?_, fun ps hs z erd fb nz d H2 hd hd2 s2 => ?_, fun i bd d H2 hd hd2 s2 => ?_⟩
      · walk_at "go"
        intro p3 hp3
        have s3 : Same H2 (upd H2 p3 (.tup [.str "told", .ref x])) := Same.upd_new hp3
        exact wait ⟨⟨p3, _, rfl, .inl ⟨ps, hs, x, kp, kd, L, M, erd, okP, okH, upd_same, eL, eM, PH.same s3⟩⟩, (s1.trans s2).trans s3⟩
      · refine ⟨true, T.ex_NoPact_PactError, fun _ ea hea => ?_, fun z => nomatch z⟩
        walk_at "go"
        intro p3 hp3
        have s3 : Same H2 (upd H2 p3 (.tup [.str "NoPact", .int z])) := Same.upd_new hp3
        exact wait ⟨⟨p3, _, rfl, .inr (.inl ⟨ps, hs, z, erd, fb, nz, upd_same⟩)⟩, (s1.trans s2).trans s3⟩
      · refine ⟨true, T.ex_NoText_PactError, fun _ ea hea => ?_, fun z => nomatch z⟩
        walk_at "go"
        intro p3 hp3
        have s3 : Same H2 (upd H2 p3 (.tup [.str "NoText", .int i])) := Same.upd_new hp3
        have hd3 := s3 _ _ hd2
        walk_at "go"
        exact wait ⟨⟨p3, _, rfl, .inr (.inr ⟨i, bd, upd_same⟩)⟩, (s1.trans s2).trans s3⟩
    rintro σ H2 ⟨⟨t, u2, rfl, md⟩, s2⟩
    walk_at "go"
    exact q t H2 md s2
end
end Pf
set_option Elab.async false
set_option linter.all false
set_option maxRecDepth 100000
set_option maxHeartbeats 4000000
namespace Pf
open PySem L2
local macro_rules | `(tactic| walk_at "nz") => `(tactic| (show (_ : Int) ≠ 0; omega))
local macro_rules | `(tactic| walk_at "ne") => `(tactic| first | assumption | (apply Ne.symm; assumption))
local macro_rules | `(tactic| walk_at "hp") => `(tactic| first | assumption | exact upd_same | (refine upd_get ?_ ?_; walk_at "ne"; walk_at "hp"))
local macro_rules | `(tactic| walk_at "sd") => `(tactic| first
  | (with_reducible show (_ : Int) < _; omega)
  | (with_reducible show (_ : Int) ≤ _; omega)
  | (with_reducible show (_ : Nat) < _; omega)
  | (with_reducible show (_ : Nat) ≤ _; omega)
  | rfl
  | assumption
  | exact kV_int _
  | exact kV_str _
  | (show (_ : Int) ≠ 0; omega)
  | exact SqL.of (by walk_at "hp")
  | exact ⟨_, SqL.of (by walk_at "hp")⟩
  | exact ⟨_, SqT.of (by walk_at "hp")⟩
  | exact ⟨_, (by assumption)⟩
  | exact SqT.of (by walk_at "hp")
  | exact Rd.of (by walk_at "hp")
  | exact Or.inl (SqL.of (by walk_at "hp"))
  | exact Or.inr (SqT.of (by walk_at "hp"))
  | exact Or.inr (by assumption)
  | (walk_at "hp")
  | (exact Or.inl ⟨rfl, _, SqL.of (by walk_at "hp")⟩)
  | (exact Or.inl ⟨by omega, by omega⟩)
  | (exact Or.inr ⟨by omega, by omega⟩)
  | (refine ⟨?_, ?_, ?_⟩ <;> omega)
  | omega
  | (exact small_le (by first | omega | (simp only [List.length_cons, List.length_nil]; omega)))
  | (exact small_lt (by first | omega | (simp only [List.length_cons, List.length_nil]; omega)))
  | exact Nat.le_of_ble_eq_true rfl
  | exact ⟨_, rfl⟩
  | decide)
local macro_rules | `(tactic| walk_at "st") => `(tactic| first
  | with_reducible refine sq_seq ?_
  | apply Exists.intro
  | (refine And.intro ?_ ?_; (walk_at "sd")))
local macro_rules | `(tactic| walk_at "go") => `(tactic| repeat (walk_at "st"))
section
variable {P : Program} {w : World} {K : PySem.W.Frag} {mg : Str → Option Value} {base : Heap} {a : Ad}
theorem no_FB {ps : List Pr} {hs : List Hl} (G : Good ps) (GH : GoodH ps hs) {z : Int} (f : FB ps hs z) (n : z ≠ -1) : False := n (FB_one f (.inl ⟨rfl, G.okPs, GH.okHs⟩))
theorem PactsH.keep2 {K : PySem.W.Frag} {C : Addr} {H H' : Hp} {x kp kd b g l : Addr} {n : Int} {L : List (Addr × Pr)} {M : List (Addr × Hl)} (h : PactsH K C H x kp kd L M) (B : BoxAt H b g l n) (k : Keep2 b g H H') (n1 : kp ≠ b) (n2 : kp ≠ g) : PactsH K C H' x kp kd L M := by
  obtain ⟨⟨_, h1⟩, ⟨_, h2⟩, _⟩ := B.lists
  obtain ⟨dx, ho⟩ := h.pa.ob
  exact ⟨⟨⟨dx, k _ _ (ne_of ho h1 (by intro z; cases z)) (ne_of ho h2 (by intro z; cases z)) ho⟩, h.pa.pr.keep (fun o e => k _ _ n1 n2 e) (B.tups k), k _ _ (ne_of h.pa.pc h1 (by intro z; cases z)) (ne_of h.pa.pc h2 (by intro z; cases z)) h.pa.pc⟩, fun e he => (h.at_ e he).tk (B.tk k)⟩
theorem shaped_rf {s : Str} {z : Int} (h : PyData.strOk s = true) : SeqAt.shaped (.tuple [.str s, .int z]) = true := by
  unfold SeqAt.shaped
  rw [Bool.and_eq_true]
  refine ⟨?_, decide_eq_true ?_⟩
  · show (PyData.strOk s && (true && true)) = true
    rw [h] <;> rfl
  · show max 0 (max 0 0) + 1 ≤ 64
    decide
def spLaw (K : PySem.W.Frag) : Sp := fun vs H Q _ => ∃ (c : Addr) (ns : List Int), vs = [.ref c] ∧ SqL K H c (ns.map V.int) ∧ ns.length ≤ 63 ∧ ∀ H', Q (.bl true) H'
theorem ok_law (T : Txt K mg a) : FnOk P w K mg base CX0 7 a.f_law a.d_law ["_law_script"] (spLaw K) := by
  have G__law_box := ok__law_box (P := P) (w := w) (base := base) T
  have G__law_take := ok__law_take (P := P) (w := w) (base := base) T
  have G__law_pairs := ok__law_pairs (P := P) (w := w) (base := base) T
  have G__law_helpers := ok__law_helpers (P := P) (w := w) (base := base) T
  have G__law_text := ok__law_text (P := P) (w := w) (base := base) T
  have G__law_made := ok__law_made (P := P) (w := w) (base := base) T
  have G__law_read := ok__law_read (P := P) (w := w) (base := base) T
  have G__law_changed := ok__law_changed (P := P) (w := w) (base := base) T
  have G__law_first_bad := ok__law_first_bad (P := P) (w := w) (base := base) T
  have G_Pacts___str__ := ok_Pacts___str__ (P := P) (w := w) (base := base) T
  have G_Pacts___eq__ := ok_Pacts___eq__ (P := P) (w := w) (base := base) T
  have G_Pacts_pairs := ok_Pacts_pairs (P := P) (w := w) (base := base) T
  have G_Pacts___len__ := ok_Pacts___len__ (P := P) (w := w) (base := base) T
  have G_Pacts___init__ := ok_Pacts___init__ (P := P) (w := w) (base := base) T
  have G_read_pacts := ok_read_pacts (P := P) (w := w) (base := base) T
  have G_Pacts_pact := ok_Pacts_pact (P := P) (w := w) (base := base) T
  have cl_Pacts := T.cl_Pacts
  have na_Pacts_kept_pairs := T.na_Pacts_kept_pairs
  have na_Pacts_kept_pacts := T.na_Pacts_kept_pacts
  refine T.F_law.ok sc_law (fun vs H Q E h => ?_) (fun cdv A outer s H vs Q E hr h => ?_)
  · obtain ⟨c, ns, rfl, _⟩ := h
    rfl
  · obtain ⟨c, ns, rfl, hS, hl, q⟩ := h
    refine ⟨_, (pss_cons (ps_set (i := 1) sc_law.nd rfl (Or.inl rfl) (pe_call G__law_box (hr.mono (by decide)) rfl T.m__law_box T.F__law_box.kp T.b__law_box .nil pass0 (pa_cons (pv 0) pa_nil)))
      (pss_cons (ps_set (i := 2) sc_law.nd rfl (Or.inl rfl) (pe_call G__law_take (hr.mono (by decide)) rfl T.m__law_take T.F__law_take.kp T.b__law_take .nil pass0 (pa_cons (pv 1) (pa_cons pe_int pa_nil))))
      (pss_cons (ps_set (i := 3) sc_law.nd rfl (Or.inl rfl) (pe_call G__law_pairs (hr.mono (by decide)) rfl T.m__law_pairs T.F__law_pairs.kp T.b__law_pairs .nil pass0 (pa_cons (pv 1) (pa_cons pe_int pa_nil))))
      (pss_cons (ps_set (i := 4) sc_law.nd rfl (Or.inl rfl) (pe_call G__law_helpers (hr.mono (by decide)) rfl T.m__law_helpers T.F__law_helpers.kp T.b__law_helpers .nil pass0 (pa_cons (pv 1) (pa_cons (pv 3) pa_nil))))
      (pss_cons (ps_set (i := 5) sc_law.nd rfl (Or.inl rfl) (pe_call G__law_text (hr.mono (by decide)) rfl T.m__law_text T.F__law_text.kp T.b__law_text .nil pass0 (pa_cons (pv 3) (pa_cons (pv 4) pa_nil))))
      (pss_cons (ps_if (PW.pt (pw_or (pt_cmpR op_ne (pe_callTy (call_strO T.mt_Pacts___str__ G_Pacts___str__ (hr.mono (by decide)) T.b_Pacts___str__ pass0) (by rfl) T.z_str (by decide +kernel) (pa_cons (pe_make T.mk_Pacts G_Pacts___init__ (hr.mono (by decide)) rfl T.m_Pacts T.b_Pacts___init__ .nil passL (pa_cons (pv 3) (pa_cons (pv 4) pa_nil))) pa_nil)) (pv 5) (nomark _)) (pw_or1 (pt_not (pt_cmpR (op_eqO G_Pacts___eq__ T.mt_Pacts___eq__.at_ T.mt_Pacts___eq__.fn T.b_Pacts___eq__ pass0 (hr.mono (by decide))) (pe_callK0 G_read_pacts (hr.mono (by decide)) rfl T.m_read_pacts T.F_read_pacts.kp T.kb_read_pacts_text passL (pk_cons (pv 5) pk_nil)) (pe_make T.mk_Pacts G_Pacts___init__ (hr.mono (by decide)) rfl T.m_Pacts T.b_Pacts___init__ .nil passL (pa_cons (pv 3) (pa_cons (pv 4) pa_nil))) (nomark _)))))) (pss_one (ps_ret pe_bl)) pss_nil)
      (pss_cons (ps_stop (ps_for PassesOwn.never rfl (pi_wait (pi_range1 rfl T.z_range (pa_cons (pv 2) pa_nil))) (pg_name (i := 6) sc_law.nd rfl (Or.inl rfl)) (pss_one (ps_set (i := 5) sc_law.nd rfl (Or.inl rfl) (pe_call G__law_changed (hr.mono (by decide)) rfl T.m__law_changed T.F__law_changed.kp T.b__law_changed .nil pass0 (pa_cons (pv 1) (pa_cons (pv 5) pa_nil)))))))
      (pss_cons (ps_asg (pe_call G__law_made (hr.mono (by decide)) rfl T.m__law_made T.F__law_made.kp T.b__law_made .nil pass0 (pa_cons (pv 5) pa_nil)) (pg_tup rfl (pgs_cons (pg_name (i := 7) sc_law.nd rfl (Or.inl rfl)) (pgs_cons (pg_name (i := 8) sc_law.nd rfl (Or.inr rfl)) pgs_nil))))
      (pss_cons (ps_asg (pe_call G__law_read (hr.mono (by decide)) rfl T.m__law_read T.F__law_read.kp T.b__law_read .nil pass0 (pa_cons (pv 5) pa_nil)) (pg_tup rfl (pgs_cons (pg_name (i := 9) sc_law.nd rfl (Or.inl rfl)) (pgs_cons (pg_name (i := 3) sc_law.nd rfl (Or.inl rfl)) (pgs_cons (pg_name (i := 4) sc_law.nd rfl (Or.inl rfl)) pgs_nil)))))
      (pss_cons (ps_if (pt_cmpR op_ge (pv 9) pe_int (nomark _)) (pss_one (ps_ret (pe_cmpR (op_eqD (hr.units)) (pe_tup (pa_cons (pv 7) (pa_cons (pv 8) pa_nil))) (pe_tup (pa_cons pe_str (pa_cons (pv 9) pa_nil))) (nomark _)))) pss_nil)
      (pss_cons (ps_if (pt_cmpR op_ge (pe_call G__law_first_bad (hr.mono (by decide)) rfl T.m__law_first_bad T.F__law_first_bad.kp T.b__law_first_bad .nil pass0 (pa_cons (pv 3) (pa_cons (pv 4) pa_nil))) pe_int (nomark _)) (pss_one (ps_ret (pe_cmpR (op_eqD (hr.units)) (pe_tup (pa_cons (pv 7) (pa_cons (pv 8) pa_nil))) (pe_tup (pa_cons pe_str (pa_cons (pe_call G__law_first_bad (hr.mono (by decide)) rfl T.m__law_first_bad T.F__law_first_bad.kp T.b__law_first_bad .nil pass0 (pa_cons (pv 3) (pa_cons (pv 4) pa_nil))) pa_nil))) (nomark _)))) pss_nil)
      (pss_cons (ps_if (PW.pt (pw_or (pt_cmpR op_ne (pv 7) pe_str (nomark _)) (pw_or (pt_cmpR (op_neD (hr.units)) (pe_meth0 (pv 8) T.cl_Pacts T.mt_Pacts_pairs G_Pacts_pairs (hr.mono (by decide)) T.b_Pacts_pairs .nil pass0) (pv 3) (nomark _)) (pw_or (pt_cmpR op_ne (pe_callB (call_lenO T.mt_Pacts___len__ G_Pacts___len__ (hr.mono (by decide)) T.b_Pacts___len__ pass0) (by rfl) T.z_len PySem.boot_len (pa_cons (pv 8) pa_nil)) (pe_callB call_lenK (by rfl) T.z_len PySem.boot_len (pa_cons (pv 4) pa_nil)) (nomark _)) (pw_or1 (pt_cmpR op_ne (pe_callTy (call_strO T.mt_Pacts___str__ G_Pacts___str__ (hr.mono (by decide)) T.b_Pacts___str__ pass0) (by rfl) T.z_str (by decide +kernel) (pa_cons (pv 8) pa_nil)) (pv 5) (nomark _))))))) (pss_one (ps_ret pe_bl)) pss_nil)
      (pss_one (ps_ret (pe_callB (cr_all rfl) (by rfl) T.z_all (by decide +kernel) (pa_cons (pe_lc (own := [("_law_helper", 10)]) (g := gName 10) (tt := tYes) (te := (tOp (rEqD K) (tMeth _ _ _ _ _ _ (tCons (tOp (rIxT K) _ _) tNil)) _)) rfl sc_law.nd (pi_list (pv 4)) (blkOk_by (own := [("_law_helper", 10)]) (N := n_law) (sc := defScope s_law) (by decide +kernel)) (fun _ _ _ _ _ => (pg_name (i := 10) sc_law.nd rfl (Or.inl rfl))) (fun _ _ _ _ _ => pts_nil) (fun _ _ _ _ _ => (pe_cmpR (op_eqD (hr.units)) (pe_meth (pv 8) T.cl_Pacts T.mt_Pacts_pact G_Pacts_pact (hr.mono (by decide)) T.b_Pacts_pact .nil passL (pa_cons (pe_ix ix_tup (pv 10) pe_int (fun _ _ => rfl)) pa_nil)) (pv 10) (nomark _)))) pa_nil)))))))))))))))), ?_⟩
    walk_at "go"
    intro b g l H1 hb hg hl1 B1 s1
    walk_at "go"
    intro r0 H0 r00 r01 B0 k0
    walk_at "go"
    intro D L n2 H2 G hD PD2 fr B2 hn2 k2
    have nD := B0.fresh hD
    have nDb := nD.1
    have nDg := nD.2.1
    walk_at "go"
    intro F M n3 H3 GH hF HF3 B3 hn3 k3
    have nF := B2.fresh hF
    have PD3 : PairsAt H3 D L := PD2.keep (fun o e => k3 _ _ nDb nDg e) (B2.tups k3)
    have szP := G.xp.sz (by decide)
    have szH := (GH.xh G).sz (by decide)
    walk_at "go"
    intro H4 s4
    obtain ⟨page, epage⟩ : ∃ page, page = textOf (L.map (·.2)) (M.map (·.2)) := ⟨_, rfl⟩
    rw [← epage]
    have PD4 := PD3.same s4
    have HF4 := HF3.same s4
    have B4 := B3.same s4
    have lp : page.length ≤ 860 := by rw [epage]; exact text_len G GH
    have okp : PyData.strOk page = true := by
      rw [epage]
      unfold textOf
      refine join_ok (by decide +kernel) fun w hw => ?_
      rcases List.mem_append.mp hw with z | z
      · obtain ⟨p, hp, rfl⟩ := List.mem_map.mp z
        refine join_ok (by decide +kernel) fun w hw => ?_
        unfold pwords at hw
        rcases List.mem_append.mp hw with z | z
        · simp only [List.mem_cons, List.not_mem_nil, or_false] at z
          rcases z with rfl | rfl | rfl
          · decide +kernel
          · exact (G.kn p hp).ok
          · exact (G.kf p hp).ok
        · split at z
          · rw [List.mem_singleton.mp z]
            decide +kernel
          · cases z
      · obtain ⟨h, hh, rfl⟩ := List.mem_map.mp z
        exact (GH.wf G h hh).ok
    have erd : rdPre (linesOf page) = some (L.map (·.2), M.map (·.2)) := by
      rw [epage, lines_text G GH]
      exact read_good G GH
    walk_at "go"
    intro x dx nx ndx nex
    have s5 : Same H4 (upd (upd H4 dx (.own x)) x (.ins a.c_Pacts dx [])) := fun y o e => upd_get (ne_of_none e nx) (upd_get (ne_of_none e ndx) e)
    refine ⟨x, dx, D, F, L, M, rfl, upd_same, PD4.same s5, HF4.same s5, szP, szH, fun _ _ kp kd H6 hkp hkd PH6 k6 => ⟨rfl, ?_⟩, fun z fb nz => (no_FB G GH fb nz).elim⟩
    have s6 : Same H4 H6 := fun y o e => k6 y o (ne_of_none e nx) (s5 _ _ e)
    obtain ⟨dx6, ho6⟩ := PH6.pa.ob
    have PD6 := PD4.same s6
    have HF6 := HF4.same s6
    have B6 := B4.same s6
    walk_at "go"
    intro H7 s7
    rw [← epage]
    refine ⟨_, rfl, ?_⟩
    have PD7 := PD6.same s7
    have HF7 := HF6.same s7
    have B7 := B6.same s7
    have lp2 : page.length ≤ 7900 := by omega
    walk_at "go"
    rw [decide_eq_true rfl]
    refine ifF rfl ?_
    walk_at "go"
    refine ⟨fun ps hs erd2 okP okH x2 kp2 kd2 L2 M2 H8 eL eM PH8 s8 => ?_, fun ps hs z erd2 fb nz => ?_, fun i bd => (bd.no erd).elim⟩
    rotate_left
    · rw [erd] at erd2
      obtain ⟨rfl, rfl⟩ := Prod.mk.inj (Option.some.inj erd2)
      exact (no_FB G GH fb nz).elim
    rw [erd] at erd2
    obtain ⟨rfl, rfl⟩ := Prod.mk.inj (Option.some.inj erd2)
    have G2 : Good (L2.map (·.2)) := by rw [eL]; exact G
    have GH2 : GoodH (L2.map (·.2)) (M2.map (·.2)) := by rw [eL, eM]; exact GH
    have PD8 := PD7.same s8
    have HF8 := HF7.same s8
    have B8 := B7.same s8
    walk_at "go"
    intro x3 dx3 nx3 ndx3 nex3
    have s9 : Same H8 (upd (upd H8 dx3 (.own x3)) x3 (.ins a.c_Pacts dx3 [])) := fun y o e => upd_get (ne_of_none e nx3) (upd_get (ne_of_none e ndx3) e)
    refine ⟨x3, dx3, D, F, L, M, rfl, upd_same, PD8.same s9, HF8.same s9, szP, szH, fun _ _ kp3 kd3 H10 hkp3 hkd3 PH10 k10 => ⟨rfl, ?_⟩, fun z fb nz => (no_FB G GH fb nz).elim⟩
    have s10 : Same H8 H10 := fun y o e => k10 y o (ne_of_none e nx3) (s9 _ _ e)
    have PH28 := PH8.same s10
    obtain ⟨dx2', ho2⟩ := PH28.pa.ob
    obtain ⟨dx3', ho3⟩ := PH10.pa.ob
    have B10 := B8.same s10
    walk_at "go"
    refine .inl ⟨x2, kp2, kd2, x3, kp3, kd3, L2, L, M2, M, rfl, PH28, PH10, G2, GH2, G, GH, fun r H11 s11 hr1 => ⟨r, rfl, ?_⟩⟩
    have er : r = true := hr1.mpr ⟨eL, eM⟩
    subst er
    have B11 := B10.same s11
    walk_at "go"
    refine sq_seq (stop_in ?_)
    walk_at "go"
    refine wait ?_
    refine forR (lo := 0) (n := r0.toNat) (fun i σ H' => ∃ (pg : Str) (n' : Int) (u6 : Option V), σ = [some (.ref c), some (.ref b), some (.int r0), some (.ref D), some (.ref F), some (.str pg), u6, none, none, none, none] ∧ PyData.strOk pg = true ∧ pg.length + 20 ≤ 2 ^ i * 880 ∧ BoxAt H' b g l n' ∧ n' ≤ n3 + 30 * i) ?_ ?_ ?_
    · exact ⟨page, n3, _, rfl, okp, by omega, B11, by omega⟩
    · rintro i σ H12 hi ⟨pg, n', u6, rfl, okg, lg, B12, hn'⟩
      have i4 : i < 3 := by omega
      have lg2 : pg.length ≤ 10000 := by
        have : i = 0 ∨ i = 1 ∨ i = 2 := by omega
        rcases this with rfl | rfl | rfl <;> omega
      walk_at "go"
      intro pg' n'' H13 ch B13 hn13 k13
      refine wait ⟨pg', n'', _, rfl, ch.ok, ?_, B13, by omega⟩
      have := ch.len
      have e2 : 2 ^ (i + 1) * 880 = 2 * (2 ^ i * 880) := by rw [Nat.pow_succ]; omega
      omega
    rintro σ H12 ⟨pg, n', u6, rfl, okg, lg, B12, hn'⟩
    have lg2 : pg.length ≤ 7900 := by
      have : r0.toNat = 0 ∨ r0.toNat = 1 ∨ r0.toNat = 2 ∨ r0.toNat = 3 := by omega
      rcases this with z | z | z | z <;> rw [z] at lg <;> omega
    walk_at "go"
    intro tm H13 md s13
    have okt : PyData.strOk ("NoText" : Str) = true ∧ PyData.strOk ("NoPact" : Str) = true := by decide +kernel
    rcases md with ⟨ps, hs, x5, kp5, kd5, L5, M5, erd5, okP, okH, htm, eL5, eM5, PH5⟩ | ⟨ps, hs, z5, erd5, fb5, nz5, htm⟩ | ⟨i5, bd5, htm⟩
    · subst eL5
      subst eM5
      have G5 := okPs_good okP
      have GH5 := okHs_good okH
      walk_at "go"
      intro t D' F' z L' M' H14 htt PD' HF' rz s14
      rcases rz with ⟨rfl, erd'⟩ | ⟨j, rfl, bd⟩
      rotate_left
      · exact (bd.no erd5).elim
      rw [erd5] at erd'
      obtain ⟨eL, eM⟩ := Prod.mk.inj (Option.some.inj erd')
      have rd5 := rd_sizes erd5 lg2 okg
      have szP5 : SzP (L'.map (·.2)) := by rw [← eL]; exact rd5.szP
      have szH5 : SzH (M'.map (·.2)) := by rw [← eM]; exact rd5.szH
      walk_at "go"
      intro y H15 fb s15
      obtain rfl : y = -1 := FB_one fb (.inl ⟨rfl, by rw [← eL]; exact okP, by rw [← eL, ← eM]; exact okH⟩)
      have PH15 := (PH5.same s14).same s15
      obtain ⟨dx15, ho15⟩ := PH15.pa.ob
      have PD15 := PD'.same s15
      have HF15 := HF'.same s15
      have pa15 := PH15.pa
      walk_at "go"
      intro R hR
      obtain ⟨H16, e16⟩ : ∃ H16, H16 = upd H15 R (.lst (L5.map fun e => V.ref e.1)) := ⟨_, rfl⟩
      have s16 : Same H15 H16 := by rw [e16]; exact Same.upd_new hR
      rw [← e16]
      have PH16 := PH15.same s16
      have PD16 := PD15.same s16
      have HF16 := HF15.same s16
      have PR16 : PairsAt H16 R L5 := ⟨by rw [e16, upd_same], PH16.pa.pr.at_⟩
      have da := PR16.dp (K := K)
      have db := PD16.dp (K := K)
      rw [← eL] at db
      have sh := shaped_prs fun p hp => rd5.xp.sw p hp
      obtain ⟨dx16, ho16⟩ := PH16.pa.ob
      have pa16 := PH16.pa
      have hlF16 := HF16.ls
      have lm' : (M'.map fun e => V.ref e.1).length = M'.length := List.length_map _
      have hkl := hk_len M5
      have lM5 : M5.length = M'.length := by
        have := congrArg List.length eM
        rw [List.length_map, List.length_map] at this
        exact this
      have lM58 := GH5.len
      rw [List.length_map] at lM58
      refine ⟨_, rfl, _, _, da, db, sh, sh, ?_⟩
      rw [eqv_self sh]
      refine ⟨_, rfl, ifF rfl ?_⟩
      walk_at "go"
      refine ifNN (by rw [hkl, lm', lM5]) ?_
      walk_at "go"
      intro H17 s17
      rw [text_back erd5]
      refine ⟨_, rfl, ?_⟩
      have PH17 := PH16.same s17
      have HF17 := HF16.same s17
      have hlF17 := HF17.ls
      have nd5 := GH5.nd2
      walk_at "go"
      rw [decide_eq_true rfl]
      refine ifF rfl ?_
      walk_at "go"
      intro Z hZ
      refine lcL (K := K) (a := F') (xs := M'.map fun e => V.ref e.1) (fun i H' => H' Z = some (.lst (((M'.take i).map fun _ => true).map V.bl)) ∧ Same H17 H') ?_ ?_ ?_ ?_
      · exact ⟨upd_same, Same.upd_new hZ⟩
      · exact fun i H' _ h => SqL.of (h.2 _ _ hlF17)
      · rintro i v H18 hi ⟨g1, g2⟩
        rw [List.getElem?_map] at hi
        obtain ⟨e, he, rfl⟩ := Option.map_eq_some_iff.mp hi
        have hem := List.mem_of_getElem? he
        have hlt := (List.getElem?_eq_some_iff.mp he).1
        have PH18 := PH17.same g2
        obtain ⟨dx18, ho18⟩ := PH18.pa.ob
        have hat : HlAt K H18 (e.1, e.2) := (HF17.at_ e hem).tk (TK.same g2)
        obtain ⟨tk, th, he3, _, _⟩ := id hat
        have he3 : H18 e.1 = some (.tup [.str e.2.name, .int e.2.side, .ref tk, .bl e.2.gives, .ref th]) := he3
        have hat0 : atI [V.str e.2.name, .int e.2.side, .ref tk, .bl e.2.gives, .ref th] 0 = some (.str e.2.name) := rfl
        have hm5 : e.2 ∈ M5.map (·.2) := by rw [eM]; exact List.mem_map.mpr ⟨e, hem, rfl⟩
        obtain ⟨d0, hd0, ed0⟩ := List.mem_map.mp hm5
        have hw := (rd5.hw e.2 hm5).1
        have shh := shaped_hl hw
        refine ⟨rfl, ?_⟩
        walk_at "go"
        refine ⟨fun d hd z => ?_, fun no => absurd (by rw [ed0]) (no d0 hd0)⟩
        have ed : d.2 = e.2 := by
          rw [name_one nd5 hd hd0 (by rw [z, ed0]), ed0]
        have dd := (PH18.at_ d hd).dp
        have de := hat.dp
        rw [ed] at dd
        refine ⟨_, rfl, _, _, dd, de, shh, shh, ?_⟩
        rw [eqv_self shh]
        refine ⟨_, g1, small_lt (by rw [List.length_map, List.length_map, List.length_take]; omega), wait ⟨?_, fun x o e => upd_get (ne_of_none e hZ) (g2 x o e)⟩⟩
        rw [upd_same, List.take_add_one, he, List.map_append, List.map_append] <;> rfl
      · rintro H18 ⟨g1, g2⟩
        rw [List.length_map, List.take_length] at g1
        walk_at "go"
        have ea : ((M'.map fun _ => true).all id) = true := by
          rw [List.all_eq_true]
          intro x hx
          obtain ⟨_, _, rfl⟩ := List.mem_map.mp hx
          rfl
        rw [ea]
        exact q _
    · walk_at "go"
      intro t D' F' z L' M' H14 htt PD' HF' rz s14
      rcases rz with ⟨rfl, erd'⟩ | ⟨j, rfl, bd⟩
      rotate_left
      · exact (bd.no erd5).elim
      rw [erd5] at erd'
      obtain ⟨rfl, rfl⟩ := Prod.mk.inj (Option.some.inj erd')
      have rd5 := rd_sizes erd5 lg2 okg
      have szP5 := rd5.szP
      have szH5 := rd5.szH
      walk_at "go"
      intro y H15 fb s15
      obtain rfl := FB_one fb5 fb
      have z0 : 0 ≤ z5 := by
        rcases fb5 with z | ⟨i, z, _⟩ | ⟨i, z, _⟩
        · exact absurd z.1 nz5
        · omega
        · omega
      have PD15 := PD'.same s15
      have HF15 := HF'.same s15
      walk_at "go"
      refine ifYes z0 ?_
      walk_at "go"
      intro p16 hp16
      obtain ⟨H16, e16⟩ : ∃ H16, H16 = upd H15 p16 (.tup [.str "NoPact", .int z5]) := ⟨_, rfl⟩
      have s16 : Same H15 H16 := by rw [e16]; exact Same.upd_new hp16
      have h16 : H16 p16 = some (.tup [.str "NoPact", .int z5]) := by rw [e16, upd_same]
      rw [← e16]
      have PD16 := PD15.same s16
      have HF16 := HF15.same s16
      walk_at "go"
      intro y H17 fb2 s17
      obtain rfl := FB_one fb5 fb2
      walk_at "go"
      intro p18 hp18
      have s18 : Same H17 (upd H17 p18 (.tup [.str "NoPact", .int z5])) := Same.upd_new hp18
      have da : Dp K (upd H17 p18 (.tup [.str "NoPact", .int z5])) (.ref p16) (.tuple [.str "NoPact", .int z5]) := .tup (SqT.of (s18 _ _ (s17 _ _ h16))) (.cons (.str _) (.cons (.int _) .nil))
      have db : Dp K (upd H17 p18 (.tup [.str "NoPact", .int z5])) (.ref p18) (.tuple [.str "NoPact", .int z5]) := .tup (SqT.of upd_same) (.cons (.str _) (.cons (.int _) .nil))
      have sh := shaped_rf (s := "NoPact") (z := z5) okt.2
      refine ⟨_, _, da, db, sh, sh, ?_⟩
      rw [eqv_self sh]
      exact q _
    · walk_at "go"
      intro t D' F' z L' M' H14 htt PD' HF' rz s14
      rcases rz with ⟨rfl, erd'⟩ | ⟨j, rfl, bd⟩
      · exact (bd5.no erd').elim
      obtain rfl := bd5.one bd
      walk_at "go"
      intro p15 hp15
      obtain ⟨H15, e15⟩ : ∃ H15, H15 = upd H14 p15 (.tup [.str "NoText", .int i5]) := ⟨_, rfl⟩
      have s15 : Same H14 H15 := by rw [e15]; exact Same.upd_new hp15
      have h15 : H15 p15 = some (.tup [.str "NoText", .int i5]) := by rw [e15, upd_same]
      rw [← e15]
      walk_at "go"
      intro p16 hp16
      have s16 : Same H15 (upd H15 p16 (.tup [.str "NoText", .int i5])) := Same.upd_new hp16
      have da : Dp K (upd H15 p16 (.tup [.str "NoText", .int i5])) (.ref p15) (.tuple [.str "NoText", .int i5]) := .tup (SqT.of (s16 _ _ h15)) (.cons (.str _) (.cons (.int _) .nil))
      have db : Dp K (upd H15 p16 (.tup [.str "NoText", .int i5])) (.ref p16) (.tuple [.str "NoText", .int i5]) := .tup (SqT.of upd_same) (.cons (.str _) (.cons (.int _) .nil))
      have sh := shaped_rf (s := "NoText") (z := i5) okt.1
      refine ⟨_, _, da, db, sh, sh, ?_⟩
      rw [eqv_self sh]
      exact q _
end
end Pf
set_option Elab.async false
set_option linter.all false
set_option maxRecDepth 100000
set_option maxHeartbeats 4000000
namespace Pf
open PySem L2
theorem all_mk {K : PySem.W.Frag} {h : Heap} {mg : Str → Option Value} (X : K.In h) (G : h.Ns mainGlobals mg)
    {cc_Pacts : Addr}
    {cc_PactError : Addr}
    {cc_NoPact : Addr}
    {nm_NoPact qq_NoPact : Str} {NN_NoPact : Addr} {bs_NoPact : List Value} {sn_NoPact : List Str} {su_NoPact : List Value} {ab_NoPact : Bool} {co_NoPact : Option Bool} {ddd_NoPact : Option Addr} {m0_NoPact m1_NoPact m2_NoPact m3_NoPact m5_NoPact : Option Value}
    {cc_NoText : Addr}
    {nm_NoText qq_NoText : Str} {NN_NoText : Addr} {bs_NoText : List Value} {sn_NoText : List Str} {su_NoText : List Value} {ab_NoText : Bool} {co_NoText : Option Bool} {ddd_NoText : Option Addr} {m0_NoText m1_NoText m2_NoText m3_NoText m5_NoText : Option Value}
    {cc_NoHelper : Addr}
    {nm_NoHelper qq_NoHelper : Str} {NN_NoHelper : Addr} {bs_NoHelper : List Value} {sn_NoHelper : List Str} {su_NoHelper : List Value} {ab_NoHelper : Bool} {co_NoHelper : Option Bool} {ddd_NoHelper : Option Addr} {m0_NoHelper m1_NoHelper m2_NoHelper m3_NoHelper m5_NoHelper : Option Value}
    {ff_NoPact___init__ : Addr} {od_NoPact___init__ an_NoPact___init__ : Option Addr} {sl_NoPact___init__ : Array (Option Value)} {oc_NoPact___init__ kV_NoPact___init__ dc_NoPact___init__ pm_NoPact___init__ cd_NoPact___init__ ct_NoPact___init__ : Value}
    {ff_NoText___init__ : Addr} {od_NoText___init__ an_NoText___init__ : Option Addr} {sl_NoText___init__ : Array (Option Value)} {oc_NoText___init__ kV_NoText___init__ dc_NoText___init__ pm_NoText___init__ cd_NoText___init__ ct_NoText___init__ : Value}
    {ff_NoHelper___init__ : Addr} {od_NoHelper___init__ an_NoHelper___init__ : Option Addr} {sl_NoHelper___init__ : Array (Option Value)} {oc_NoHelper___init__ kV_NoHelper___init__ dc_NoHelper___init__ pm_NoHelper___init__ cd_NoHelper___init__ ct_NoHelper___init__ : Value}
    {ff_is_name : Addr} {od_is_name an_is_name : Option Addr} {sl_is_name : Array (Option Value)} {oc_is_name kV_is_name dc_is_name pm_is_name cd_is_name ct_is_name : Value}
    {ff_Pacts___init__ : Addr} {od_Pacts___init__ an_Pacts___init__ : Option Addr} {sl_Pacts___init__ : Array (Option Value)} {oc_Pacts___init__ kV_Pacts___init__ dc_Pacts___init__ pm_Pacts___init__ cd_Pacts___init__ ct_Pacts___init__ : Value}
    {ff_Pacts_fits_pair : Addr} {od_Pacts_fits_pair an_Pacts_fits_pair : Option Addr} {sl_Pacts_fits_pair : Array (Option Value)} {oc_Pacts_fits_pair kV_Pacts_fits_pair dc_Pacts_fits_pair pm_Pacts_fits_pair cd_Pacts_fits_pair ct_Pacts_fits_pair : Value}
    {ff_Pacts_fits_helper : Addr} {od_Pacts_fits_helper an_Pacts_fits_helper : Option Addr} {sl_Pacts_fits_helper : Array (Option Value)} {oc_Pacts_fits_helper kV_Pacts_fits_helper dc_Pacts_fits_helper pm_Pacts_fits_helper cd_Pacts_fits_helper ct_Pacts_fits_helper : Value}
    {ff_Pacts_words_called : Addr} {od_Pacts_words_called an_Pacts_words_called : Option Addr} {sl_Pacts_words_called : Array (Option Value)} {oc_Pacts_words_called kV_Pacts_words_called dc_Pacts_words_called pm_Pacts_words_called cd_Pacts_words_called ct_Pacts_words_called : Value}
    {ff_Pacts_pairs : Addr} {od_Pacts_pairs an_Pacts_pairs : Option Addr} {sl_Pacts_pairs : Array (Option Value)} {oc_Pacts_pairs kV_Pacts_pairs dc_Pacts_pairs pm_Pacts_pairs cd_Pacts_pairs ct_Pacts_pairs : Value}
    {ff_Pacts_names : Addr} {od_Pacts_names an_Pacts_names : Option Addr} {sl_Pacts_names : Array (Option Value)} {oc_Pacts_names kV_Pacts_names dc_Pacts_names pm_Pacts_names cd_Pacts_names ct_Pacts_names : Value}
    {ff_Pacts_pact : Addr} {od_Pacts_pact an_Pacts_pact : Option Addr} {sl_Pacts_pact : Array (Option Value)} {oc_Pacts_pact kV_Pacts_pact dc_Pacts_pact pm_Pacts_pact cd_Pacts_pact ct_Pacts_pact : Value}
    {ff_Pacts___len__ : Addr} {od_Pacts___len__ an_Pacts___len__ : Option Addr} {sl_Pacts___len__ : Array (Option Value)} {oc_Pacts___len__ kV_Pacts___len__ dc_Pacts___len__ pm_Pacts___len__ cd_Pacts___len__ ct_Pacts___len__ : Value}
    {ff_Pacts___eq__ : Addr} {od_Pacts___eq__ an_Pacts___eq__ : Option Addr} {sl_Pacts___eq__ : Array (Option Value)} {oc_Pacts___eq__ kV_Pacts___eq__ dc_Pacts___eq__ pm_Pacts___eq__ cd_Pacts___eq__ ct_Pacts___eq__ : Value}
    {ff_Pacts_lines_told : Addr} {od_Pacts_lines_told an_Pacts_lines_told : Option Addr} {sl_Pacts_lines_told : Array (Option Value)} {oc_Pacts_lines_told kV_Pacts_lines_told dc_Pacts_lines_told pm_Pacts_lines_told cd_Pacts_lines_told ct_Pacts_lines_told : Value}
    {ff_Pacts___str__ : Addr} {od_Pacts___str__ an_Pacts___str__ : Option Addr} {sl_Pacts___str__ : Array (Option Value)} {oc_Pacts___str__ kV_Pacts___str__ dc_Pacts___str__ pm_Pacts___str__ cd_Pacts___str__ ct_Pacts___str__ : Value}
    {ff_pair_line : Addr} {od_pair_line an_pair_line : Option Addr} {sl_pair_line : Array (Option Value)} {oc_pair_line kV_pair_line dc_pair_line pm_pair_line cd_pair_line ct_pair_line : Value}
    {ff_helper_line : Addr} {od_helper_line an_helper_line : Option Addr} {sl_helper_line : Array (Option Value)} {oc_helper_line kV_helper_line dc_helper_line pm_helper_line cd_helper_line ct_helper_line : Value}
    {ff_read_pair : Addr} {od_read_pair an_read_pair : Option Addr} {sl_read_pair : Array (Option Value)} {oc_read_pair kV_read_pair dc_read_pair pm_read_pair cd_read_pair ct_read_pair : Value}
    {ff_read_helper : Addr} {od_read_helper an_read_helper : Option Addr} {sl_read_helper : Array (Option Value)} {oc_read_helper kV_read_helper dc_read_helper pm_read_helper cd_read_helper ct_read_helper : Value}
    {ff_read_pacts : Addr} {od_read_pacts an_read_pacts : Option Addr} {sl_read_pacts : Array (Option Value)} {oc_read_pacts kV_read_pacts dc_read_pacts pm_read_pacts cd_read_pacts ct_read_pacts : Value}
    {ff__law_box : Addr} {od__law_box an__law_box : Option Addr} {sl__law_box : Array (Option Value)} {oc__law_box kV__law_box dc__law_box pm__law_box cd__law_box ct__law_box : Value}
    {ff__law_mixed : Addr} {od__law_mixed an__law_mixed : Option Addr} {sl__law_mixed : Array (Option Value)} {oc__law_mixed kV__law_mixed dc__law_mixed pm__law_mixed cd__law_mixed ct__law_mixed : Value}
    {ff__law_take : Addr} {od__law_take an__law_take : Option Addr} {sl__law_take : Array (Option Value)} {oc__law_take kV__law_take dc__law_take pm__law_take cd__law_take ct__law_take : Value}
    {ff__law_name : Addr} {od__law_name an__law_name : Option Addr} {sl__law_name : Array (Option Value)} {oc__law_name kV__law_name dc__law_name pm__law_name cd__law_name ct__law_name : Value}
    {ff__law_names : Addr} {od__law_names an__law_names : Option Addr} {sl__law_names : Array (Option Value)} {oc__law_names kV__law_names dc__law_names pm__law_names cd__law_names ct__law_names : Value}
    {ff__law_pairs : Addr} {od__law_pairs an__law_pairs : Option Addr} {sl__law_pairs : Array (Option Value)} {oc__law_pairs kV__law_pairs dc__law_pairs pm__law_pairs cd__law_pairs ct__law_pairs : Value}
    {ff__law_some : Addr} {od__law_some an__law_some : Option Addr} {sl__law_some : Array (Option Value)} {oc__law_some kV__law_some dc__law_some pm__law_some cd__law_some ct__law_some : Value}
    {ff__law_helpers : Addr} {od__law_helpers an__law_helpers : Option Addr} {sl__law_helpers : Array (Option Value)} {oc__law_helpers kV__law_helpers dc__law_helpers pm__law_helpers cd__law_helpers ct__law_helpers : Value}
    {ff__law_line : Addr} {od__law_line an__law_line : Option Addr} {sl__law_line : Array (Option Value)} {oc__law_line kV__law_line dc__law_line pm__law_line cd__law_line ct__law_line : Value}
    {ff__law_text : Addr} {od__law_text an__law_text : Option Addr} {sl__law_text : Array (Option Value)} {oc__law_text kV__law_text dc__law_text pm__law_text cd__law_text ct__law_text : Value}
    {ff__law_pair_read : Addr} {od__law_pair_read an__law_pair_read : Option Addr} {sl__law_pair_read : Array (Option Value)} {oc__law_pair_read kV__law_pair_read dc__law_pair_read pm__law_pair_read cd__law_pair_read ct__law_pair_read : Value}
    {ff__law_helper_read : Addr} {od__law_helper_read an__law_helper_read : Option Addr} {sl__law_helper_read : Array (Option Value)} {oc__law_helper_read kV__law_helper_read dc__law_helper_read pm__law_helper_read cd__law_helper_read ct__law_helper_read : Value}
    {ff__law_read : Addr} {od__law_read an__law_read : Option Addr} {sl__law_read : Array (Option Value)} {oc__law_read kV__law_read dc__law_read pm__law_read cd__law_read ct__law_read : Value}
    {ff__law_is_name : Addr} {od__law_is_name an__law_is_name : Option Addr} {sl__law_is_name : Array (Option Value)} {oc__law_is_name kV__law_is_name dc__law_is_name pm__law_is_name cd__law_is_name ct__law_is_name : Value}
    {ff__law_pair_fits : Addr} {od__law_pair_fits an__law_pair_fits : Option Addr} {sl__law_pair_fits : Array (Option Value)} {oc__law_pair_fits kV__law_pair_fits dc__law_pair_fits pm__law_pair_fits cd__law_pair_fits ct__law_pair_fits : Value}
    {ff__law_helper_fits : Addr} {od__law_helper_fits an__law_helper_fits : Option Addr} {sl__law_helper_fits : Array (Option Value)} {oc__law_helper_fits kV__law_helper_fits dc__law_helper_fits pm__law_helper_fits cd__law_helper_fits ct__law_helper_fits : Value}
    {ff__law_first_bad : Addr} {od__law_first_bad an__law_first_bad : Option Addr} {sl__law_first_bad : Array (Option Value)} {oc__law_first_bad kV__law_first_bad dc__law_first_bad pm__law_first_bad cd__law_first_bad ct__law_first_bad : Value}
    {ff__law_row_changed : Addr} {od__law_row_changed an__law_row_changed : Option Addr} {sl__law_row_changed : Array (Option Value)} {oc__law_row_changed kV__law_row_changed dc__law_row_changed pm__law_row_changed cd__law_row_changed ct__law_row_changed : Value}
    {ff__law_changed : Addr} {od__law_changed an__law_changed : Option Addr} {sl__law_changed : Array (Option Value)} {oc__law_changed kV__law_changed dc__law_changed pm__law_changed cd__law_changed ct__law_changed : Value}
    {ff__law_made : Addr} {od__law_made an__law_made : Option Addr} {sl__law_made : Array (Option Value)} {oc__law_made kV__law_made dc__law_made pm__law_made cd__law_made ct__law_made : Value}
    {ff_law : Addr} {od_law an_law : Option Addr} {sl_law : Array (Option Value)} {oc_law kV_law dc_law pm_law cd_law ct_law : Value}
    {tt_LETTERS : Tok}
    {tt_MOST : Tok}
    {tt_MOST_PAIRS : Tok}
    {tt_MOST_HELPERS : Tok}
    {tt_MOST_TAKES : Tok}
    {tt_MOST_THROWS : Tok}
    {kk_HOWS : Addr} {kd_HOWS : Option Addr} {kn_HOWS : Nat} {ks_HOWS : Array (Option Value)} {kt0_HOWS : Tok} {kt1_HOWS : Tok}
    (aC_Pacts : PySem.W.nsIn K mainGlobals "Pacts" = some (some (.ref cc_Pacts)))
    (pg_Pacts : PySem.W.plainGet K cc_Pacts Str.empty = true)
    (hd_Pacts : PySem.W.hasDictIn K cc_Pacts = true)
    (po_Pacts : PySem.W.plainOver K cc_Pacts = true)
    (sa_Pacts : PySem.W.findIn K (.ref cc_Pacts) "__setattr__" = some (some (.builtin "object.__setattr__")))
    (mk_Pacts : PySem.W.makesIn K cc_Pacts = true)
    (kc_Pacts : PySem.W.keepIn K (.ref cc_Pacts) = true)
    (ocne_Pacts : PySem.W.findIn K (.ref cc_Pacts) "__ne__" = some (some (.builtin "object.__ne__")))
    (ocob_Pacts : PySem.W.subIn K (.ref cc_Pacts) (.type "object") = some true)
    (ocm1_Pacts : PySem.W.subIn K (.ref cc_Pacts) (.type "str") = some false)
    (ocm2_Pacts : PySem.W.subIn K (.ref cc_Pacts) (.type "int") = some false)
    (ocm3_Pacts : PySem.W.subIn K (.ref cc_Pacts) (.type "NoneType") = some false)
    (ocm4_Pacts : PySem.W.subIn K (.ref cc_Pacts) (.type "list") = some false)
    (ocha_Pacts : PySem.W.findIn K (.ref cc_Pacts) "__class__" = some (some (.builtin "object.__class__")))
    (ochn_Pacts : PySem.W.specialIn K (.builtin "object.__class__") "__get__" = some (some (.builtin "getset_descriptor.__get__")))
    (ocht_Pacts : PySem.W.takesIn K (.builtin "object.__class__") = some true)
    (ochm_Pacts : PySem.W.mroIn K cc_Pacts (.type "object") = some true)
    (ock1_Pacts : PySem.W.kitOne K (.type "str") (.ref cc_Pacts) = some false)
    (ock2_Pacts : PySem.W.kitOne K (.type "int") (.ref cc_Pacts) = some false)
    (ock3_Pacts : PySem.W.kitOne K (.type "NoneType") (.ref cc_Pacts) = some false)
    (ock4_Pacts : PySem.W.kitOne K (.type "list") (.ref cc_Pacts) = some false)
    (na_Pacts_kept_pairs : PySem.W.findIn K (.ref cc_Pacts) "kept_pairs" = some none)
    (na_Pacts_kept_pacts : PySem.W.findIn K (.ref cc_Pacts) "kept_pacts" = some none)
    (aC_PactError : PySem.W.nsIn K mainGlobals "PactError" = some (some (.ref cc_PactError)))
    (bE_PactError : PySem.W.subIn K (.ref cc_PactError) (.type "BaseException") = some true)
    (hd_PactError : PySem.W.hasDictIn K cc_PactError = true)
    (ty_PactError : PySem.W.typeIn K (.ref cc_PactError) = some (.type "type"))
    (aC_NoPact : PySem.W.nsIn K mainGlobals "NoPact" = some (some (.ref cc_NoPact)))
    (bE_NoPact : PySem.W.subIn K (.ref cc_NoPact) (.type "BaseException") = some true)
    (hd_NoPact : PySem.W.hasDictIn K cc_NoPact = true)
    (ty_NoPact : PySem.W.typeIn K (.ref cc_NoPact) = some (.type "type"))
    (xL_NoPact : K.lookup cc_NoPact = some (excClassObj nm_NoPact qq_NoPact cc_NoPact NN_NoPact bs_NoPact [.ref cc_PactError, .type "ValueError", .type "Exception", .type "BaseException", .type "object"] true sn_NoPact su_NoPact ab_NoPact co_NoPact ddd_NoPact m0_NoPact m1_NoPact m2_NoPact m3_NoPact m5_NoPact "ValueError.__new__"))
    (sa_NoPact : PySem.W.findIn K (.ref cc_NoPact) "__setattr__" = some (some (.builtin "object.__setattr__")))
    (ga_NoPact : PySem.W.findIn K (.ref cc_NoPact) "__getattribute__" = some (some (.builtin "BaseException.__getattribute__")))
    (gg_NoPact : PySem.W.findIn K (.ref cc_NoPact) "__getattr__" = some none)
    (kc_NoPact : PySem.W.keepIn K (.ref cc_NoPact) = true)
    (cc__NoPact : PySem.W.findIn K (.ref cc_NoPact) "__class__" = some (some (.builtin "object.__class__")))
    (mo_NoPact : PySem.W.mroIn K cc_NoPact (.type "object") = some true)
    (na_NoPact_at : PySem.W.findIn K (.ref cc_NoPact) "at" = some none)
    (aC_NoText : PySem.W.nsIn K mainGlobals "NoText" = some (some (.ref cc_NoText)))
    (bE_NoText : PySem.W.subIn K (.ref cc_NoText) (.type "BaseException") = some true)
    (hd_NoText : PySem.W.hasDictIn K cc_NoText = true)
    (ty_NoText : PySem.W.typeIn K (.ref cc_NoText) = some (.type "type"))
    (xL_NoText : K.lookup cc_NoText = some (excClassObj nm_NoText qq_NoText cc_NoText NN_NoText bs_NoText [.ref cc_PactError, .type "ValueError", .type "Exception", .type "BaseException", .type "object"] true sn_NoText su_NoText ab_NoText co_NoText ddd_NoText m0_NoText m1_NoText m2_NoText m3_NoText m5_NoText "ValueError.__new__"))
    (sa_NoText : PySem.W.findIn K (.ref cc_NoText) "__setattr__" = some (some (.builtin "object.__setattr__")))
    (ga_NoText : PySem.W.findIn K (.ref cc_NoText) "__getattribute__" = some (some (.builtin "BaseException.__getattribute__")))
    (gg_NoText : PySem.W.findIn K (.ref cc_NoText) "__getattr__" = some none)
    (kc_NoText : PySem.W.keepIn K (.ref cc_NoText) = true)
    (cc__NoText : PySem.W.findIn K (.ref cc_NoText) "__class__" = some (some (.builtin "object.__class__")))
    (mo_NoText : PySem.W.mroIn K cc_NoText (.type "object") = some true)
    (na_NoText_at : PySem.W.findIn K (.ref cc_NoText) "at" = some none)
    (aC_NoHelper : PySem.W.nsIn K mainGlobals "NoHelper" = some (some (.ref cc_NoHelper)))
    (bE_NoHelper : PySem.W.subIn K (.ref cc_NoHelper) (.type "BaseException") = some true)
    (hd_NoHelper : PySem.W.hasDictIn K cc_NoHelper = true)
    (ty_NoHelper : PySem.W.typeIn K (.ref cc_NoHelper) = some (.type "type"))
    (xL_NoHelper : K.lookup cc_NoHelper = some (excClassObj nm_NoHelper qq_NoHelper cc_NoHelper NN_NoHelper bs_NoHelper [.ref cc_PactError, .type "ValueError", .type "Exception", .type "BaseException", .type "object"] true sn_NoHelper su_NoHelper ab_NoHelper co_NoHelper ddd_NoHelper m0_NoHelper m1_NoHelper m2_NoHelper m3_NoHelper m5_NoHelper "ValueError.__new__"))
    (sa_NoHelper : PySem.W.findIn K (.ref cc_NoHelper) "__setattr__" = some (some (.builtin "object.__setattr__")))
    (ga_NoHelper : PySem.W.findIn K (.ref cc_NoHelper) "__getattribute__" = some (some (.builtin "BaseException.__getattribute__")))
    (gg_NoHelper : PySem.W.findIn K (.ref cc_NoHelper) "__getattr__" = some none)
    (kc_NoHelper : PySem.W.keepIn K (.ref cc_NoHelper) = true)
    (cc__NoHelper : PySem.W.findIn K (.ref cc_NoHelper) "__class__" = some (some (.builtin "object.__class__")))
    (mo_NoHelper : PySem.W.mroIn K cc_NoHelper (.type "object") = some true)
    (na_NoHelper_name : PySem.W.findIn K (.ref cc_NoHelper) "name" = some none)
    (sGet : PySem.W.specialIn K (.builtin "object.__class__") "__get__" = some (some (.builtin "getset_descriptor.__get__")))
    (tGet : PySem.W.takesIn K (.builtin "object.__class__") = some true)
    (su_NoPact_NoPact : PySem.W.subIn K (.ref cc_NoPact) (.ref cc_NoPact) = some true)
    (su_NoPact_PactError : PySem.W.subIn K (.ref cc_NoPact) (.ref cc_PactError) = some true)
    (su_NoPact_NoText : PySem.W.subIn K (.ref cc_NoPact) (.ref cc_NoText) = some false)
    (su_NoPact_ValueError : PySem.W.subIn K (.ref cc_NoPact) (.type "ValueError") = some true)
    (su_NoText_NoText : PySem.W.subIn K (.ref cc_NoText) (.ref cc_NoText) = some true)
    (su_NoText_PactError : PySem.W.subIn K (.ref cc_NoText) (.ref cc_PactError) = some true)
    (su_NoText_NoPact : PySem.W.subIn K (.ref cc_NoText) (.ref cc_NoPact) = some false)
    (su_NoText_ValueError : PySem.W.subIn K (.ref cc_NoText) (.type "ValueError") = some true)
    (a_NoPact___init__ : PySem.W.findIn K (.ref cc_NoPact) "__init__" = some (some (.ref ff_NoPact___init__)))
    (i_NoPact___init__ : PySem.W.isFn K (.ref ff_NoPact___init__) = true)
    (l_NoPact___init__ : K.lookup ff_NoPact___init__ = some ⟨oc_NoPact___init__, od_NoPact___init__, .func (PySem.W.fnOf "__init__" "NoPact.__init__" (defArgs s_NoPact___init__) (defBody s_NoPact___init__) (defScope s_NoPact___init__) .none kV_NoPact___init__ dc_NoPact___init__ pm_NoPact___init__ an_NoPact___init__ cd_NoPact___init__ ct_NoPact___init__), sl_NoPact___init__⟩)
    (c_NoPact___init__ : PySem.W.codeIn K cd_NoPact___init__ "NoPact.__init__" = true)
    (k_NoPact___init__ : PySem.W.keepIn K (.ref ff_NoPact___init__) = true)
    (a_NoText___init__ : PySem.W.findIn K (.ref cc_NoText) "__init__" = some (some (.ref ff_NoText___init__)))
    (i_NoText___init__ : PySem.W.isFn K (.ref ff_NoText___init__) = true)
    (l_NoText___init__ : K.lookup ff_NoText___init__ = some ⟨oc_NoText___init__, od_NoText___init__, .func (PySem.W.fnOf "__init__" "NoText.__init__" (defArgs s_NoText___init__) (defBody s_NoText___init__) (defScope s_NoText___init__) .none kV_NoText___init__ dc_NoText___init__ pm_NoText___init__ an_NoText___init__ cd_NoText___init__ ct_NoText___init__), sl_NoText___init__⟩)
    (c_NoText___init__ : PySem.W.codeIn K cd_NoText___init__ "NoText.__init__" = true)
    (k_NoText___init__ : PySem.W.keepIn K (.ref ff_NoText___init__) = true)
    (a_NoHelper___init__ : PySem.W.findIn K (.ref cc_NoHelper) "__init__" = some (some (.ref ff_NoHelper___init__)))
    (i_NoHelper___init__ : PySem.W.isFn K (.ref ff_NoHelper___init__) = true)
    (l_NoHelper___init__ : K.lookup ff_NoHelper___init__ = some ⟨oc_NoHelper___init__, od_NoHelper___init__, .func (PySem.W.fnOf "__init__" "NoHelper.__init__" (defArgs s_NoHelper___init__) (defBody s_NoHelper___init__) (defScope s_NoHelper___init__) .none kV_NoHelper___init__ dc_NoHelper___init__ pm_NoHelper___init__ an_NoHelper___init__ cd_NoHelper___init__ ct_NoHelper___init__), sl_NoHelper___init__⟩)
    (c_NoHelper___init__ : PySem.W.codeIn K cd_NoHelper___init__ "NoHelper.__init__" = true)
    (k_NoHelper___init__ : PySem.W.keepIn K (.ref ff_NoHelper___init__) = true)
    (a_is_name : PySem.W.nsIn K mainGlobals "is_name" = some (some (.ref ff_is_name)))
    (l_is_name : K.lookup ff_is_name = some ⟨oc_is_name, od_is_name, .func (PySem.W.fnOf "is_name" "is_name" (defArgs s_is_name) (defBody s_is_name) (defScope s_is_name) .none kV_is_name dc_is_name pm_is_name an_is_name cd_is_name ct_is_name), sl_is_name⟩)
    (c_is_name : PySem.W.codeIn K cd_is_name "is_name" = true)
    (k_is_name : PySem.W.keepIn K (.ref ff_is_name) = true)
    (a_Pacts___init__ : PySem.W.findIn K (.ref cc_Pacts) "__init__" = some (some (.ref ff_Pacts___init__)))
    (i_Pacts___init__ : PySem.W.isFn K (.ref ff_Pacts___init__) = true)
    (l_Pacts___init__ : K.lookup ff_Pacts___init__ = some ⟨oc_Pacts___init__, od_Pacts___init__, .func (PySem.W.fnOf "__init__" "Pacts.__init__" (defArgs s_Pacts___init__) (defBody s_Pacts___init__) (defScope s_Pacts___init__) .none kV_Pacts___init__ dc_Pacts___init__ pm_Pacts___init__ an_Pacts___init__ cd_Pacts___init__ ct_Pacts___init__), sl_Pacts___init__⟩)
    (c_Pacts___init__ : PySem.W.codeIn K cd_Pacts___init__ "Pacts.__init__" = true)
    (k_Pacts___init__ : PySem.W.keepIn K (.ref ff_Pacts___init__) = true)
    (a_Pacts_fits_pair : PySem.W.findIn K (.ref cc_Pacts) "fits_pair" = some (some (.ref ff_Pacts_fits_pair)))
    (i_Pacts_fits_pair : PySem.W.isFn K (.ref ff_Pacts_fits_pair) = true)
    (l_Pacts_fits_pair : K.lookup ff_Pacts_fits_pair = some ⟨oc_Pacts_fits_pair, od_Pacts_fits_pair, .func (PySem.W.fnOf "fits_pair" "Pacts.fits_pair" (defArgs s_Pacts_fits_pair) (defBody s_Pacts_fits_pair) (defScope s_Pacts_fits_pair) .none kV_Pacts_fits_pair dc_Pacts_fits_pair pm_Pacts_fits_pair an_Pacts_fits_pair cd_Pacts_fits_pair ct_Pacts_fits_pair), sl_Pacts_fits_pair⟩)
    (c_Pacts_fits_pair : PySem.W.codeIn K cd_Pacts_fits_pair "Pacts.fits_pair" = true)
    (k_Pacts_fits_pair : PySem.W.keepIn K (.ref ff_Pacts_fits_pair) = true)
    (a_Pacts_fits_helper : PySem.W.findIn K (.ref cc_Pacts) "fits_helper" = some (some (.ref ff_Pacts_fits_helper)))
    (i_Pacts_fits_helper : PySem.W.isFn K (.ref ff_Pacts_fits_helper) = true)
    (l_Pacts_fits_helper : K.lookup ff_Pacts_fits_helper = some ⟨oc_Pacts_fits_helper, od_Pacts_fits_helper, .func (PySem.W.fnOf "fits_helper" "Pacts.fits_helper" (defArgs s_Pacts_fits_helper) (defBody s_Pacts_fits_helper) (defScope s_Pacts_fits_helper) .none kV_Pacts_fits_helper dc_Pacts_fits_helper pm_Pacts_fits_helper an_Pacts_fits_helper cd_Pacts_fits_helper ct_Pacts_fits_helper), sl_Pacts_fits_helper⟩)
    (c_Pacts_fits_helper : PySem.W.codeIn K cd_Pacts_fits_helper "Pacts.fits_helper" = true)
    (k_Pacts_fits_helper : PySem.W.keepIn K (.ref ff_Pacts_fits_helper) = true)
    (a_Pacts_words_called : PySem.W.findIn K (.ref cc_Pacts) "words_called" = some (some (.ref ff_Pacts_words_called)))
    (i_Pacts_words_called : PySem.W.isFn K (.ref ff_Pacts_words_called) = true)
    (l_Pacts_words_called : K.lookup ff_Pacts_words_called = some ⟨oc_Pacts_words_called, od_Pacts_words_called, .func (PySem.W.fnOf "words_called" "Pacts.words_called" (defArgs s_Pacts_words_called) (defBody s_Pacts_words_called) (defScope s_Pacts_words_called) .none kV_Pacts_words_called dc_Pacts_words_called pm_Pacts_words_called an_Pacts_words_called cd_Pacts_words_called ct_Pacts_words_called), sl_Pacts_words_called⟩)
    (c_Pacts_words_called : PySem.W.codeIn K cd_Pacts_words_called "Pacts.words_called" = true)
    (k_Pacts_words_called : PySem.W.keepIn K (.ref ff_Pacts_words_called) = true)
    (a_Pacts_pairs : PySem.W.findIn K (.ref cc_Pacts) "pairs" = some (some (.ref ff_Pacts_pairs)))
    (i_Pacts_pairs : PySem.W.isFn K (.ref ff_Pacts_pairs) = true)
    (l_Pacts_pairs : K.lookup ff_Pacts_pairs = some ⟨oc_Pacts_pairs, od_Pacts_pairs, .func (PySem.W.fnOf "pairs" "Pacts.pairs" (defArgs s_Pacts_pairs) (defBody s_Pacts_pairs) (defScope s_Pacts_pairs) .none kV_Pacts_pairs dc_Pacts_pairs pm_Pacts_pairs an_Pacts_pairs cd_Pacts_pairs ct_Pacts_pairs), sl_Pacts_pairs⟩)
    (c_Pacts_pairs : PySem.W.codeIn K cd_Pacts_pairs "Pacts.pairs" = true)
    (k_Pacts_pairs : PySem.W.keepIn K (.ref ff_Pacts_pairs) = true)
    (a_Pacts_names : PySem.W.findIn K (.ref cc_Pacts) "names" = some (some (.ref ff_Pacts_names)))
    (i_Pacts_names : PySem.W.isFn K (.ref ff_Pacts_names) = true)
    (l_Pacts_names : K.lookup ff_Pacts_names = some ⟨oc_Pacts_names, od_Pacts_names, .func (PySem.W.fnOf "names" "Pacts.names" (defArgs s_Pacts_names) (defBody s_Pacts_names) (defScope s_Pacts_names) .none kV_Pacts_names dc_Pacts_names pm_Pacts_names an_Pacts_names cd_Pacts_names ct_Pacts_names), sl_Pacts_names⟩)
    (c_Pacts_names : PySem.W.codeIn K cd_Pacts_names "Pacts.names" = true)
    (k_Pacts_names : PySem.W.keepIn K (.ref ff_Pacts_names) = true)
    (a_Pacts_pact : PySem.W.findIn K (.ref cc_Pacts) "pact" = some (some (.ref ff_Pacts_pact)))
    (i_Pacts_pact : PySem.W.isFn K (.ref ff_Pacts_pact) = true)
    (l_Pacts_pact : K.lookup ff_Pacts_pact = some ⟨oc_Pacts_pact, od_Pacts_pact, .func (PySem.W.fnOf "pact" "Pacts.pact" (defArgs s_Pacts_pact) (defBody s_Pacts_pact) (defScope s_Pacts_pact) .none kV_Pacts_pact dc_Pacts_pact pm_Pacts_pact an_Pacts_pact cd_Pacts_pact ct_Pacts_pact), sl_Pacts_pact⟩)
    (c_Pacts_pact : PySem.W.codeIn K cd_Pacts_pact "Pacts.pact" = true)
    (k_Pacts_pact : PySem.W.keepIn K (.ref ff_Pacts_pact) = true)
    (a_Pacts___len__ : PySem.W.findIn K (.ref cc_Pacts) "__len__" = some (some (.ref ff_Pacts___len__)))
    (i_Pacts___len__ : PySem.W.isFn K (.ref ff_Pacts___len__) = true)
    (l_Pacts___len__ : K.lookup ff_Pacts___len__ = some ⟨oc_Pacts___len__, od_Pacts___len__, .func (PySem.W.fnOf "__len__" "Pacts.__len__" (defArgs s_Pacts___len__) (defBody s_Pacts___len__) (defScope s_Pacts___len__) .none kV_Pacts___len__ dc_Pacts___len__ pm_Pacts___len__ an_Pacts___len__ cd_Pacts___len__ ct_Pacts___len__), sl_Pacts___len__⟩)
    (c_Pacts___len__ : PySem.W.codeIn K cd_Pacts___len__ "Pacts.__len__" = true)
    (k_Pacts___len__ : PySem.W.keepIn K (.ref ff_Pacts___len__) = true)
    (a_Pacts___eq__ : PySem.W.findIn K (.ref cc_Pacts) "__eq__" = some (some (.ref ff_Pacts___eq__)))
    (i_Pacts___eq__ : PySem.W.isFn K (.ref ff_Pacts___eq__) = true)
    (l_Pacts___eq__ : K.lookup ff_Pacts___eq__ = some ⟨oc_Pacts___eq__, od_Pacts___eq__, .func (PySem.W.fnOf "__eq__" "Pacts.__eq__" (defArgs s_Pacts___eq__) (defBody s_Pacts___eq__) (defScope s_Pacts___eq__) .none kV_Pacts___eq__ dc_Pacts___eq__ pm_Pacts___eq__ an_Pacts___eq__ cd_Pacts___eq__ ct_Pacts___eq__), sl_Pacts___eq__⟩)
    (c_Pacts___eq__ : PySem.W.codeIn K cd_Pacts___eq__ "Pacts.__eq__" = true)
    (k_Pacts___eq__ : PySem.W.keepIn K (.ref ff_Pacts___eq__) = true)
    (a_Pacts_lines_told : PySem.W.findIn K (.ref cc_Pacts) "lines_told" = some (some (.ref ff_Pacts_lines_told)))
    (i_Pacts_lines_told : PySem.W.isFn K (.ref ff_Pacts_lines_told) = true)
    (l_Pacts_lines_told : K.lookup ff_Pacts_lines_told = some ⟨oc_Pacts_lines_told, od_Pacts_lines_told, .func (PySem.W.fnOf "lines_told" "Pacts.lines_told" (defArgs s_Pacts_lines_told) (defBody s_Pacts_lines_told) (defScope s_Pacts_lines_told) .none kV_Pacts_lines_told dc_Pacts_lines_told pm_Pacts_lines_told an_Pacts_lines_told cd_Pacts_lines_told ct_Pacts_lines_told), sl_Pacts_lines_told⟩)
    (c_Pacts_lines_told : PySem.W.codeIn K cd_Pacts_lines_told "Pacts.lines_told" = true)
    (k_Pacts_lines_told : PySem.W.keepIn K (.ref ff_Pacts_lines_told) = true)
    (a_Pacts___str__ : PySem.W.findIn K (.ref cc_Pacts) "__str__" = some (some (.ref ff_Pacts___str__)))
    (i_Pacts___str__ : PySem.W.isFn K (.ref ff_Pacts___str__) = true)
    (l_Pacts___str__ : K.lookup ff_Pacts___str__ = some ⟨oc_Pacts___str__, od_Pacts___str__, .func (PySem.W.fnOf "__str__" "Pacts.__str__" (defArgs s_Pacts___str__) (defBody s_Pacts___str__) (defScope s_Pacts___str__) .none kV_Pacts___str__ dc_Pacts___str__ pm_Pacts___str__ an_Pacts___str__ cd_Pacts___str__ ct_Pacts___str__), sl_Pacts___str__⟩)
    (c_Pacts___str__ : PySem.W.codeIn K cd_Pacts___str__ "Pacts.__str__" = true)
    (k_Pacts___str__ : PySem.W.keepIn K (.ref ff_Pacts___str__) = true)
    (a_pair_line : PySem.W.nsIn K mainGlobals "pair_line" = some (some (.ref ff_pair_line)))
    (l_pair_line : K.lookup ff_pair_line = some ⟨oc_pair_line, od_pair_line, .func (PySem.W.fnOf "pair_line" "pair_line" (defArgs s_pair_line) (defBody s_pair_line) (defScope s_pair_line) .none kV_pair_line dc_pair_line pm_pair_line an_pair_line cd_pair_line ct_pair_line), sl_pair_line⟩)
    (c_pair_line : PySem.W.codeIn K cd_pair_line "pair_line" = true)
    (k_pair_line : PySem.W.keepIn K (.ref ff_pair_line) = true)
    (a_helper_line : PySem.W.nsIn K mainGlobals "helper_line" = some (some (.ref ff_helper_line)))
    (l_helper_line : K.lookup ff_helper_line = some ⟨oc_helper_line, od_helper_line, .func (PySem.W.fnOf "helper_line" "helper_line" (defArgs s_helper_line) (defBody s_helper_line) (defScope s_helper_line) .none kV_helper_line dc_helper_line pm_helper_line an_helper_line cd_helper_line ct_helper_line), sl_helper_line⟩)
    (c_helper_line : PySem.W.codeIn K cd_helper_line "helper_line" = true)
    (k_helper_line : PySem.W.keepIn K (.ref ff_helper_line) = true)
    (a_read_pair : PySem.W.nsIn K mainGlobals "read_pair" = some (some (.ref ff_read_pair)))
    (l_read_pair : K.lookup ff_read_pair = some ⟨oc_read_pair, od_read_pair, .func (PySem.W.fnOf "read_pair" "read_pair" (defArgs s_read_pair) (defBody s_read_pair) (defScope s_read_pair) .none kV_read_pair dc_read_pair pm_read_pair an_read_pair cd_read_pair ct_read_pair), sl_read_pair⟩)
    (c_read_pair : PySem.W.codeIn K cd_read_pair "read_pair" = true)
    (k_read_pair : PySem.W.keepIn K (.ref ff_read_pair) = true)
    (a_read_helper : PySem.W.nsIn K mainGlobals "read_helper" = some (some (.ref ff_read_helper)))
    (l_read_helper : K.lookup ff_read_helper = some ⟨oc_read_helper, od_read_helper, .func (PySem.W.fnOf "read_helper" "read_helper" (defArgs s_read_helper) (defBody s_read_helper) (defScope s_read_helper) .none kV_read_helper dc_read_helper pm_read_helper an_read_helper cd_read_helper ct_read_helper), sl_read_helper⟩)
    (c_read_helper : PySem.W.codeIn K cd_read_helper "read_helper" = true)
    (k_read_helper : PySem.W.keepIn K (.ref ff_read_helper) = true)
    (a_read_pacts : PySem.W.nsIn K mainGlobals "read_pacts" = some (some (.ref ff_read_pacts)))
    (l_read_pacts : K.lookup ff_read_pacts = some ⟨oc_read_pacts, od_read_pacts, .func (PySem.W.fnOf "read_pacts" "read_pacts" (defArgs s_read_pacts) (defBody s_read_pacts) (defScope s_read_pacts) .none kV_read_pacts dc_read_pacts pm_read_pacts an_read_pacts cd_read_pacts ct_read_pacts), sl_read_pacts⟩)
    (c_read_pacts : PySem.W.codeIn K cd_read_pacts "read_pacts" = true)
    (k_read_pacts : PySem.W.keepIn K (.ref ff_read_pacts) = true)
    (a__law_box : PySem.W.nsIn K mainGlobals "_law_box" = some (some (.ref ff__law_box)))
    (l__law_box : K.lookup ff__law_box = some ⟨oc__law_box, od__law_box, .func (PySem.W.fnOf "_law_box" "_law_box" (defArgs s__law_box) (defBody s__law_box) (defScope s__law_box) .none kV__law_box dc__law_box pm__law_box an__law_box cd__law_box ct__law_box), sl__law_box⟩)
    (c__law_box : PySem.W.codeIn K cd__law_box "_law_box" = true)
    (k__law_box : PySem.W.keepIn K (.ref ff__law_box) = true)
    (a__law_mixed : PySem.W.nsIn K mainGlobals "_law_mixed" = some (some (.ref ff__law_mixed)))
    (l__law_mixed : K.lookup ff__law_mixed = some ⟨oc__law_mixed, od__law_mixed, .func (PySem.W.fnOf "_law_mixed" "_law_mixed" (defArgs s__law_mixed) (defBody s__law_mixed) (defScope s__law_mixed) .none kV__law_mixed dc__law_mixed pm__law_mixed an__law_mixed cd__law_mixed ct__law_mixed), sl__law_mixed⟩)
    (c__law_mixed : PySem.W.codeIn K cd__law_mixed "_law_mixed" = true)
    (k__law_mixed : PySem.W.keepIn K (.ref ff__law_mixed) = true)
    (a__law_take : PySem.W.nsIn K mainGlobals "_law_take" = some (some (.ref ff__law_take)))
    (l__law_take : K.lookup ff__law_take = some ⟨oc__law_take, od__law_take, .func (PySem.W.fnOf "_law_take" "_law_take" (defArgs s__law_take) (defBody s__law_take) (defScope s__law_take) .none kV__law_take dc__law_take pm__law_take an__law_take cd__law_take ct__law_take), sl__law_take⟩)
    (c__law_take : PySem.W.codeIn K cd__law_take "_law_take" = true)
    (k__law_take : PySem.W.keepIn K (.ref ff__law_take) = true)
    (a__law_name : PySem.W.nsIn K mainGlobals "_law_name" = some (some (.ref ff__law_name)))
    (l__law_name : K.lookup ff__law_name = some ⟨oc__law_name, od__law_name, .func (PySem.W.fnOf "_law_name" "_law_name" (defArgs s__law_name) (defBody s__law_name) (defScope s__law_name) .none kV__law_name dc__law_name pm__law_name an__law_name cd__law_name ct__law_name), sl__law_name⟩)
    (c__law_name : PySem.W.codeIn K cd__law_name "_law_name" = true)
    (k__law_name : PySem.W.keepIn K (.ref ff__law_name) = true)
    (a__law_names : PySem.W.nsIn K mainGlobals "_law_names" = some (some (.ref ff__law_names)))
    (l__law_names : K.lookup ff__law_names = some ⟨oc__law_names, od__law_names, .func (PySem.W.fnOf "_law_names" "_law_names" (defArgs s__law_names) (defBody s__law_names) (defScope s__law_names) .none kV__law_names dc__law_names pm__law_names an__law_names cd__law_names ct__law_names), sl__law_names⟩)
    (c__law_names : PySem.W.codeIn K cd__law_names "_law_names" = true)
    (k__law_names : PySem.W.keepIn K (.ref ff__law_names) = true)
    (a__law_pairs : PySem.W.nsIn K mainGlobals "_law_pairs" = some (some (.ref ff__law_pairs)))
    (l__law_pairs : K.lookup ff__law_pairs = some ⟨oc__law_pairs, od__law_pairs, .func (PySem.W.fnOf "_law_pairs" "_law_pairs" (defArgs s__law_pairs) (defBody s__law_pairs) (defScope s__law_pairs) .none kV__law_pairs dc__law_pairs pm__law_pairs an__law_pairs cd__law_pairs ct__law_pairs), sl__law_pairs⟩)
    (c__law_pairs : PySem.W.codeIn K cd__law_pairs "_law_pairs" = true)
    (k__law_pairs : PySem.W.keepIn K (.ref ff__law_pairs) = true)
    (a__law_some : PySem.W.nsIn K mainGlobals "_law_some" = some (some (.ref ff__law_some)))
    (l__law_some : K.lookup ff__law_some = some ⟨oc__law_some, od__law_some, .func (PySem.W.fnOf "_law_some" "_law_some" (defArgs s__law_some) (defBody s__law_some) (defScope s__law_some) .none kV__law_some dc__law_some pm__law_some an__law_some cd__law_some ct__law_some), sl__law_some⟩)
    (c__law_some : PySem.W.codeIn K cd__law_some "_law_some" = true)
    (k__law_some : PySem.W.keepIn K (.ref ff__law_some) = true)
    (a__law_helpers : PySem.W.nsIn K mainGlobals "_law_helpers" = some (some (.ref ff__law_helpers)))
    (l__law_helpers : K.lookup ff__law_helpers = some ⟨oc__law_helpers, od__law_helpers, .func (PySem.W.fnOf "_law_helpers" "_law_helpers" (defArgs s__law_helpers) (defBody s__law_helpers) (defScope s__law_helpers) .none kV__law_helpers dc__law_helpers pm__law_helpers an__law_helpers cd__law_helpers ct__law_helpers), sl__law_helpers⟩)
    (c__law_helpers : PySem.W.codeIn K cd__law_helpers "_law_helpers" = true)
    (k__law_helpers : PySem.W.keepIn K (.ref ff__law_helpers) = true)
    (a__law_line : PySem.W.nsIn K mainGlobals "_law_line" = some (some (.ref ff__law_line)))
    (l__law_line : K.lookup ff__law_line = some ⟨oc__law_line, od__law_line, .func (PySem.W.fnOf "_law_line" "_law_line" (defArgs s__law_line) (defBody s__law_line) (defScope s__law_line) .none kV__law_line dc__law_line pm__law_line an__law_line cd__law_line ct__law_line), sl__law_line⟩)
    (c__law_line : PySem.W.codeIn K cd__law_line "_law_line" = true)
    (k__law_line : PySem.W.keepIn K (.ref ff__law_line) = true)
    (a__law_text : PySem.W.nsIn K mainGlobals "_law_text" = some (some (.ref ff__law_text)))
    (l__law_text : K.lookup ff__law_text = some ⟨oc__law_text, od__law_text, .func (PySem.W.fnOf "_law_text" "_law_text" (defArgs s__law_text) (defBody s__law_text) (defScope s__law_text) .none kV__law_text dc__law_text pm__law_text an__law_text cd__law_text ct__law_text), sl__law_text⟩)
    (c__law_text : PySem.W.codeIn K cd__law_text "_law_text" = true)
    (k__law_text : PySem.W.keepIn K (.ref ff__law_text) = true)
    (a__law_pair_read : PySem.W.nsIn K mainGlobals "_law_pair_read" = some (some (.ref ff__law_pair_read)))
    (l__law_pair_read : K.lookup ff__law_pair_read = some ⟨oc__law_pair_read, od__law_pair_read, .func (PySem.W.fnOf "_law_pair_read" "_law_pair_read" (defArgs s__law_pair_read) (defBody s__law_pair_read) (defScope s__law_pair_read) .none kV__law_pair_read dc__law_pair_read pm__law_pair_read an__law_pair_read cd__law_pair_read ct__law_pair_read), sl__law_pair_read⟩)
    (c__law_pair_read : PySem.W.codeIn K cd__law_pair_read "_law_pair_read" = true)
    (k__law_pair_read : PySem.W.keepIn K (.ref ff__law_pair_read) = true)
    (a__law_helper_read : PySem.W.nsIn K mainGlobals "_law_helper_read" = some (some (.ref ff__law_helper_read)))
    (l__law_helper_read : K.lookup ff__law_helper_read = some ⟨oc__law_helper_read, od__law_helper_read, .func (PySem.W.fnOf "_law_helper_read" "_law_helper_read" (defArgs s__law_helper_read) (defBody s__law_helper_read) (defScope s__law_helper_read) .none kV__law_helper_read dc__law_helper_read pm__law_helper_read an__law_helper_read cd__law_helper_read ct__law_helper_read), sl__law_helper_read⟩)
    (c__law_helper_read : PySem.W.codeIn K cd__law_helper_read "_law_helper_read" = true)
    (k__law_helper_read : PySem.W.keepIn K (.ref ff__law_helper_read) = true)
    (a__law_read : PySem.W.nsIn K mainGlobals "_law_read" = some (some (.ref ff__law_read)))
    (l__law_read : K.lookup ff__law_read = some ⟨oc__law_read, od__law_read, .func (PySem.W.fnOf "_law_read" "_law_read" (defArgs s__law_read) (defBody s__law_read) (defScope s__law_read) .none kV__law_read dc__law_read pm__law_read an__law_read cd__law_read ct__law_read), sl__law_read⟩)
    (c__law_read : PySem.W.codeIn K cd__law_read "_law_read" = true)
    (k__law_read : PySem.W.keepIn K (.ref ff__law_read) = true)
    (a__law_is_name : PySem.W.nsIn K mainGlobals "_law_is_name" = some (some (.ref ff__law_is_name)))
    (l__law_is_name : K.lookup ff__law_is_name = some ⟨oc__law_is_name, od__law_is_name, .func (PySem.W.fnOf "_law_is_name" "_law_is_name" (defArgs s__law_is_name) (defBody s__law_is_name) (defScope s__law_is_name) .none kV__law_is_name dc__law_is_name pm__law_is_name an__law_is_name cd__law_is_name ct__law_is_name), sl__law_is_name⟩)
    (c__law_is_name : PySem.W.codeIn K cd__law_is_name "_law_is_name" = true)
    (k__law_is_name : PySem.W.keepIn K (.ref ff__law_is_name) = true)
    (a__law_pair_fits : PySem.W.nsIn K mainGlobals "_law_pair_fits" = some (some (.ref ff__law_pair_fits)))
    (l__law_pair_fits : K.lookup ff__law_pair_fits = some ⟨oc__law_pair_fits, od__law_pair_fits, .func (PySem.W.fnOf "_law_pair_fits" "_law_pair_fits" (defArgs s__law_pair_fits) (defBody s__law_pair_fits) (defScope s__law_pair_fits) .none kV__law_pair_fits dc__law_pair_fits pm__law_pair_fits an__law_pair_fits cd__law_pair_fits ct__law_pair_fits), sl__law_pair_fits⟩)
    (c__law_pair_fits : PySem.W.codeIn K cd__law_pair_fits "_law_pair_fits" = true)
    (k__law_pair_fits : PySem.W.keepIn K (.ref ff__law_pair_fits) = true)
    (a__law_helper_fits : PySem.W.nsIn K mainGlobals "_law_helper_fits" = some (some (.ref ff__law_helper_fits)))
    (l__law_helper_fits : K.lookup ff__law_helper_fits = some ⟨oc__law_helper_fits, od__law_helper_fits, .func (PySem.W.fnOf "_law_helper_fits" "_law_helper_fits" (defArgs s__law_helper_fits) (defBody s__law_helper_fits) (defScope s__law_helper_fits) .none kV__law_helper_fits dc__law_helper_fits pm__law_helper_fits an__law_helper_fits cd__law_helper_fits ct__law_helper_fits), sl__law_helper_fits⟩)
    (c__law_helper_fits : PySem.W.codeIn K cd__law_helper_fits "_law_helper_fits" = true)
    (k__law_helper_fits : PySem.W.keepIn K (.ref ff__law_helper_fits) = true)
    (a__law_first_bad : PySem.W.nsIn K mainGlobals "_law_first_bad" = some (some (.ref ff__law_first_bad)))
    (l__law_first_bad : K.lookup ff__law_first_bad = some ⟨oc__law_first_bad, od__law_first_bad, .func (PySem.W.fnOf "_law_first_bad" "_law_first_bad" (defArgs s__law_first_bad) (defBody s__law_first_bad) (defScope s__law_first_bad) .none kV__law_first_bad dc__law_first_bad pm__law_first_bad an__law_first_bad cd__law_first_bad ct__law_first_bad), sl__law_first_bad⟩)
    (c__law_first_bad : PySem.W.codeIn K cd__law_first_bad "_law_first_bad" = true)
    (k__law_first_bad : PySem.W.keepIn K (.ref ff__law_first_bad) = true)
    (a__law_row_changed : PySem.W.nsIn K mainGlobals "_law_row_changed" = some (some (.ref ff__law_row_changed)))
    (l__law_row_changed : K.lookup ff__law_row_changed = some ⟨oc__law_row_changed, od__law_row_changed, .func (PySem.W.fnOf "_law_row_changed" "_law_row_changed" (defArgs s__law_row_changed) (defBody s__law_row_changed) (defScope s__law_row_changed) .none kV__law_row_changed dc__law_row_changed pm__law_row_changed an__law_row_changed cd__law_row_changed ct__law_row_changed), sl__law_row_changed⟩)
    (c__law_row_changed : PySem.W.codeIn K cd__law_row_changed "_law_row_changed" = true)
    (k__law_row_changed : PySem.W.keepIn K (.ref ff__law_row_changed) = true)
    (a__law_changed : PySem.W.nsIn K mainGlobals "_law_changed" = some (some (.ref ff__law_changed)))
    (l__law_changed : K.lookup ff__law_changed = some ⟨oc__law_changed, od__law_changed, .func (PySem.W.fnOf "_law_changed" "_law_changed" (defArgs s__law_changed) (defBody s__law_changed) (defScope s__law_changed) .none kV__law_changed dc__law_changed pm__law_changed an__law_changed cd__law_changed ct__law_changed), sl__law_changed⟩)
    (c__law_changed : PySem.W.codeIn K cd__law_changed "_law_changed" = true)
    (k__law_changed : PySem.W.keepIn K (.ref ff__law_changed) = true)
    (a__law_made : PySem.W.nsIn K mainGlobals "_law_made" = some (some (.ref ff__law_made)))
    (l__law_made : K.lookup ff__law_made = some ⟨oc__law_made, od__law_made, .func (PySem.W.fnOf "_law_made" "_law_made" (defArgs s__law_made) (defBody s__law_made) (defScope s__law_made) .none kV__law_made dc__law_made pm__law_made an__law_made cd__law_made ct__law_made), sl__law_made⟩)
    (c__law_made : PySem.W.codeIn K cd__law_made "_law_made" = true)
    (k__law_made : PySem.W.keepIn K (.ref ff__law_made) = true)
    (a_law : PySem.W.nsIn K mainGlobals "law" = some (some (.ref ff_law)))
    (l_law : K.lookup ff_law = some ⟨oc_law, od_law, .func (PySem.W.fnOf "law" "law" (defArgs s_law) (defBody s_law) (defScope s_law) .none kV_law dc_law pm_law an_law cd_law ct_law), sl_law⟩)
    (c_law : PySem.W.codeIn K cd_law "law" = true)
    (k_law : PySem.W.keepIn K (.ref ff_law) = true)
    (ti_NoPact : PySem.W.typeIn K (.ref ff_NoPact___init__) = some (.type "function"))
    (ti_NoText : PySem.W.typeIn K (.ref ff_NoText___init__) = some (.type "function"))
    (ti_NoHelper : PySem.W.typeIn K (.ref ff_NoHelper___init__) = some (.type "function"))
    (z_all : PySem.W.nsIn K mainGlobals "all" = some none)
    (z_len : PySem.W.nsIn K mainGlobals "len" = some none)
    (z_enumerate : PySem.W.nsIn K mainGlobals "enumerate" = some none)
    (z_any : PySem.W.nsIn K mainGlobals "any" = some none)
    (z_set : PySem.W.nsIn K mainGlobals "set" = some none)
    (z_list : PySem.W.nsIn K mainGlobals "list" = some none)
    (z_isinstance : PySem.W.nsIn K mainGlobals "isinstance" = some none)
    (z_str : PySem.W.nsIn K mainGlobals "str" = some none)
    (z_int : PySem.W.nsIn K mainGlobals "int" = some none)
    (z_tuple : PySem.W.nsIn K mainGlobals "tuple" = some none)
    (z_range : PySem.W.nsIn K mainGlobals "range" = some none)
    (z_zip : PySem.W.nsIn K mainGlobals "zip" = some none)
    (z_min : PySem.W.nsIn K mainGlobals "min" = some none)
    (z_ValueError : PySem.W.nsIn K mainGlobals "ValueError" = some none)
    (g_LETTERS : PySem.W.nsIn K mainGlobals "LETTERS" = some (some (.str "abcdefghijklmnopqrstuvwxyz" tt_LETTERS)))
    (g_MOST : PySem.W.nsIn K mainGlobals "MOST" = some (some (.int 8 tt_MOST)))
    (g_MOST_PAIRS : PySem.W.nsIn K mainGlobals "MOST_PAIRS" = some (some (.int 6 tt_MOST_PAIRS)))
    (g_MOST_HELPERS : PySem.W.nsIn K mainGlobals "MOST_HELPERS" = some (some (.int 4 tt_MOST_HELPERS)))
    (g_MOST_TAKES : PySem.W.nsIn K mainGlobals "MOST_TAKES" = some (some (.int 3 tt_MOST_TAKES)))
    (g_MOST_THROWS : PySem.W.nsIn K mainGlobals "MOST_THROWS" = some (some (.int 4 tt_MOST_THROWS)))
    (g_HOWS : PySem.W.nsIn K mainGlobals "HOWS" = some (some (.ref kk_HOWS)))
    (tl_HOWS : K.lookup kk_HOWS = some ⟨.type "tuple", kd_HOWS, .seq #[.str "lent" kt0_HOWS, .str "given" kt1_HOWS] kn_HOWS, ks_HOWS⟩)
    : ∃ a : Ad, Txt K mg a := by
  have F_NoPact___init__ := fun_mk (st := s_NoPact___init__) l_NoPact___init__ c_NoPact___init__ k_NoPact___init__
  have b_NoPact___init__ := F_NoPact___init__.binds (ps := ["self", "at"]) fun _ _ _ _ _ _ us hl => match us, hl with | [_, _], _ => rfl
  have F_NoText___init__ := fun_mk (st := s_NoText___init__) l_NoText___init__ c_NoText___init__ k_NoText___init__
  have b_NoText___init__ := F_NoText___init__.binds (ps := ["self", "at"]) fun _ _ _ _ _ _ us hl => match us, hl with | [_, _], _ => rfl
  have F_NoHelper___init__ := fun_mk (st := s_NoHelper___init__) l_NoHelper___init__ c_NoHelper___init__ k_NoHelper___init__
  have b_NoHelper___init__ := F_NoHelper___init__.binds (ps := ["self", "name"]) fun _ _ _ _ _ _ us hl => match us, hl with | [_, _], _ => rfl
  have F_is_name := fun_mk (st := s_is_name) l_is_name c_is_name k_is_name
  have b_is_name := F_is_name.binds (ps := ["word"]) fun _ _ _ _ _ _ us hl => match us, hl with | [_], _ => rfl
  have F_Pacts___init__ := fun_mk (st := s_Pacts___init__) l_Pacts___init__ c_Pacts___init__ k_Pacts___init__
  have b_Pacts___init__ := F_Pacts___init__.binds (ps := ["self", "pairs", "helpers"]) fun _ _ _ _ _ _ us hl => match us, hl with | [_, _, _], _ => rfl
  have F_Pacts_fits_pair := fun_mk (st := s_Pacts_fits_pair) l_Pacts_fits_pair c_Pacts_fits_pair k_Pacts_fits_pair
  have b_Pacts_fits_pair := F_Pacts_fits_pair.binds (ps := ["self", "pair"]) fun _ _ _ _ _ _ us hl => match us, hl with | [_, _], _ => rfl
  have F_Pacts_fits_helper := fun_mk (st := s_Pacts_fits_helper) l_Pacts_fits_helper c_Pacts_fits_helper k_Pacts_fits_helper
  have b_Pacts_fits_helper := F_Pacts_fits_helper.binds (ps := ["self", "helper"]) fun _ _ _ _ _ _ us hl => match us, hl with | [_, _], _ => rfl
  have F_Pacts_words_called := fun_mk (st := s_Pacts_words_called) l_Pacts_words_called c_Pacts_words_called k_Pacts_words_called
  have b_Pacts_words_called := F_Pacts_words_called.binds (ps := ["self", "side"]) fun _ _ _ _ _ _ us hl => match us, hl with | [_, _], _ => rfl
  have F_Pacts_pairs := fun_mk (st := s_Pacts_pairs) l_Pacts_pairs c_Pacts_pairs k_Pacts_pairs
  have b_Pacts_pairs := F_Pacts_pairs.binds (ps := ["self"]) fun _ _ _ _ _ _ us hl => match us, hl with | [_], _ => rfl
  have F_Pacts_names := fun_mk (st := s_Pacts_names) l_Pacts_names c_Pacts_names k_Pacts_names
  have b_Pacts_names := F_Pacts_names.binds (ps := ["self", "side"]) fun _ _ _ _ _ _ us hl => match us, hl with | [_, _], _ => rfl
  have F_Pacts_pact := fun_mk (st := s_Pacts_pact) l_Pacts_pact c_Pacts_pact k_Pacts_pact
  have b_Pacts_pact := F_Pacts_pact.binds (ps := ["self", "name"]) fun _ _ _ _ _ _ us hl => match us, hl with | [_, _], _ => rfl
  have F_Pacts___len__ := fun_mk (st := s_Pacts___len__) l_Pacts___len__ c_Pacts___len__ k_Pacts___len__
  have b_Pacts___len__ := F_Pacts___len__.binds (ps := ["self"]) fun _ _ _ _ _ _ us hl => match us, hl with | [_], _ => rfl
  have F_Pacts___eq__ := fun_mk (st := s_Pacts___eq__) l_Pacts___eq__ c_Pacts___eq__ k_Pacts___eq__
  have b_Pacts___eq__ := F_Pacts___eq__.binds (ps := ["self", "other"]) fun _ _ _ _ _ _ us hl => match us, hl with | [_, _], _ => rfl
  have F_Pacts_lines_told := fun_mk (st := s_Pacts_lines_told) l_Pacts_lines_told c_Pacts_lines_told k_Pacts_lines_told
  have b_Pacts_lines_told := F_Pacts_lines_told.binds (ps := ["self"]) fun _ _ _ _ _ _ us hl => match us, hl with | [_], _ => rfl
  have F_Pacts___str__ := fun_mk (st := s_Pacts___str__) l_Pacts___str__ c_Pacts___str__ k_Pacts___str__
  have b_Pacts___str__ := F_Pacts___str__.binds (ps := ["self"]) fun _ _ _ _ _ _ us hl => match us, hl with | [_], _ => rfl
  have F_pair_line := fun_mk (st := s_pair_line) l_pair_line c_pair_line k_pair_line
  have b_pair_line := F_pair_line.binds (ps := ["pair"]) fun _ _ _ _ _ _ us hl => match us, hl with | [_], _ => rfl
  have F_helper_line := fun_mk (st := s_helper_line) l_helper_line c_helper_line k_helper_line
  have b_helper_line := F_helper_line.binds (ps := ["pact"]) fun _ _ _ _ _ _ us hl => match us, hl with | [_], _ => rfl
  have F_read_pair := fun_mk (st := s_read_pair) l_read_pair c_read_pair k_read_pair
  have b_read_pair := F_read_pair.binds (ps := ["words", "at"]) fun _ _ _ _ _ _ us hl => match us, hl with | [_, _], _ => rfl
  have F_read_helper := fun_mk (st := s_read_helper) l_read_helper c_read_helper k_read_helper
  have b_read_helper := F_read_helper.binds (ps := ["words", "at"]) fun _ _ _ _ _ _ us hl => match us, hl with | [_, _], _ => rfl
  have F_read_pacts := fun_mk (st := s_read_pacts) l_read_pacts c_read_pacts k_read_pacts
  have b_read_pacts := F_read_pacts.binds (ps := ["text"]) fun _ _ _ _ _ _ us hl => match us, hl with | [_], _ => rfl
  have F__law_box := fun_mk (st := s__law_box) l__law_box c__law_box k__law_box
  have b__law_box := F__law_box.binds (ps := ["_law_script"]) fun _ _ _ _ _ _ us hl => match us, hl with | [_], _ => rfl
  have F__law_mixed := fun_mk (st := s__law_mixed) l__law_mixed c__law_mixed k__law_mixed
  have b__law_mixed := F__law_mixed.binds (ps := ["_law_cell", "_law_k"]) fun _ _ _ _ _ _ us hl => match us, hl with | [_, _], _ => rfl
  have F__law_take := fun_mk (st := s__law_take) l__law_take c__law_take k__law_take
  have b__law_take := F__law_take.binds (ps := ["_law_box_here", "_law_size"]) fun _ _ _ _ _ _ us hl => match us, hl with | [_, _], _ => rfl
  have F__law_name := fun_mk (st := s__law_name) l__law_name c__law_name k__law_name
  have b__law_name := F__law_name.binds (ps := ["_law_box_here"]) fun _ _ _ _ _ _ us hl => match us, hl with | [_], _ => rfl
  have F__law_names := fun_mk (st := s__law_names) l__law_names c__law_names k__law_names
  have b__law_names := F__law_names.binds (ps := ["_law_box_here", "_law_many"]) fun _ _ _ _ _ _ us hl => match us, hl with | [_, _], _ => rfl
  have F__law_pairs := fun_mk (st := s__law_pairs) l__law_pairs c__law_pairs k__law_pairs
  have b__law_pairs := F__law_pairs.binds (ps := ["_law_box_here", "_law_most"]) fun _ _ _ _ _ _ us hl => match us, hl with | [_, _], _ => rfl
  have F__law_some := fun_mk (st := s__law_some) l__law_some c__law_some k__law_some
  have b__law_some := F__law_some.binds (ps := ["_law_box_here", "_law_things", "_law_most"]) fun _ _ _ _ _ _ us hl => match us, hl with | [_, _, _], _ => rfl
  have F__law_helpers := fun_mk (st := s__law_helpers) l__law_helpers c__law_helpers k__law_helpers
  have b__law_helpers := F__law_helpers.binds (ps := ["_law_box_here", "_law_pairs_here"]) fun _ _ _ _ _ _ us hl => match us, hl with | [_, _], _ => rfl
  have F__law_line := fun_mk (st := s__law_line) l__law_line c__law_line k__law_line
  have b__law_line := F__law_line.binds (ps := ["_law_helper"]) fun _ _ _ _ _ _ us hl => match us, hl with | [_], _ => rfl
  have F__law_text := fun_mk (st := s__law_text) l__law_text c__law_text k__law_text
  have b__law_text := F__law_text.binds (ps := ["_law_pairs_here", "_law_helpers_here"]) fun _ _ _ _ _ _ us hl => match us, hl with | [_, _], _ => rfl
  have F__law_pair_read := fun_mk (st := s__law_pair_read) l__law_pair_read c__law_pair_read k__law_pair_read
  have b__law_pair_read := F__law_pair_read.binds (ps := ["_law_words"]) fun _ _ _ _ _ _ us hl => match us, hl with | [_], _ => rfl
  have F__law_helper_read := fun_mk (st := s__law_helper_read) l__law_helper_read c__law_helper_read k__law_helper_read
  have b__law_helper_read := F__law_helper_read.binds (ps := ["_law_words"]) fun _ _ _ _ _ _ us hl => match us, hl with | [_], _ => rfl
  have F__law_read := fun_mk (st := s__law_read) l__law_read c__law_read k__law_read
  have b__law_read := F__law_read.binds (ps := ["_law_page"]) fun _ _ _ _ _ _ us hl => match us, hl with | [_], _ => rfl
  have F__law_is_name := fun_mk (st := s__law_is_name) l__law_is_name c__law_is_name k__law_is_name
  have b__law_is_name := F__law_is_name.binds (ps := ["_law_word"]) fun _ _ _ _ _ _ us hl => match us, hl with | [_], _ => rfl
  have F__law_pair_fits := fun_mk (st := s__law_pair_fits) l__law_pair_fits c__law_pair_fits k__law_pair_fits
  have b__law_pair_fits := F__law_pair_fits.binds (ps := ["_law_ahead", "_law_pair"]) fun _ _ _ _ _ _ us hl => match us, hl with | [_, _], _ => rfl
  have F__law_helper_fits := fun_mk (st := s__law_helper_fits) l__law_helper_fits c__law_helper_fits k__law_helper_fits
  have b__law_helper_fits := F__law_helper_fits.binds (ps := ["_law_pairs_here", "_law_ahead", "_law_helper"]) fun _ _ _ _ _ _ us hl => match us, hl with | [_, _, _], _ => rfl
  have F__law_first_bad := fun_mk (st := s__law_first_bad) l__law_first_bad c__law_first_bad k__law_first_bad
  have b__law_first_bad := F__law_first_bad.binds (ps := ["_law_pairs_here", "_law_helpers_here"]) fun _ _ _ _ _ _ us hl => match us, hl with | [_, _], _ => rfl
  have F__law_row_changed := fun_mk (st := s__law_row_changed) l__law_row_changed c__law_row_changed k__law_row_changed
  have b__law_row_changed := F__law_row_changed.binds (ps := ["_law_box_here", "_law_row"]) fun _ _ _ _ _ _ us hl => match us, hl with | [_, _], _ => rfl
  have F__law_changed := fun_mk (st := s__law_changed) l__law_changed c__law_changed k__law_changed
  have b__law_changed := F__law_changed.binds (ps := ["_law_box_here", "_law_page"]) fun _ _ _ _ _ _ us hl => match us, hl with | [_, _], _ => rfl
  have F__law_made := fun_mk (st := s__law_made) l__law_made c__law_made k__law_made
  have b__law_made := F__law_made.binds (ps := ["_law_page"]) fun _ _ _ _ _ _ us hl => match us, hl with | [_], _ => rfl
  have F_law := fun_mk (st := s_law) l_law c_law k_law
  have b_law := F_law.binds (ps := ["_law_script"]) fun _ _ _ _ _ _ us hl => match us, hl with | [_], _ => rfl
  exact ⟨⟨kk_HOWS, cc_Pacts, cc_PactError, cc_NoPact, cc_NoText, cc_NoHelper, ff_NoPact___init__, (PySem.W.fnOf "__init__" "NoPact.__init__" (defArgs s_NoPact___init__) (defBody s_NoPact___init__) (defScope s_NoPact___init__) .none kV_NoPact___init__ dc_NoPact___init__ pm_NoPact___init__ an_NoPact___init__ cd_NoPact___init__ ct_NoPact___init__), ff_NoText___init__, (PySem.W.fnOf "__init__" "NoText.__init__" (defArgs s_NoText___init__) (defBody s_NoText___init__) (defScope s_NoText___init__) .none kV_NoText___init__ dc_NoText___init__ pm_NoText___init__ an_NoText___init__ cd_NoText___init__ ct_NoText___init__), ff_NoHelper___init__, (PySem.W.fnOf "__init__" "NoHelper.__init__" (defArgs s_NoHelper___init__) (defBody s_NoHelper___init__) (defScope s_NoHelper___init__) .none kV_NoHelper___init__ dc_NoHelper___init__ pm_NoHelper___init__ an_NoHelper___init__ cd_NoHelper___init__ ct_NoHelper___init__), ff_is_name, (PySem.W.fnOf "is_name" "is_name" (defArgs s_is_name) (defBody s_is_name) (defScope s_is_name) .none kV_is_name dc_is_name pm_is_name an_is_name cd_is_name ct_is_name), ff_Pacts___init__, (PySem.W.fnOf "__init__" "Pacts.__init__" (defArgs s_Pacts___init__) (defBody s_Pacts___init__) (defScope s_Pacts___init__) .none kV_Pacts___init__ dc_Pacts___init__ pm_Pacts___init__ an_Pacts___init__ cd_Pacts___init__ ct_Pacts___init__), ff_Pacts_fits_pair, (PySem.W.fnOf "fits_pair" "Pacts.fits_pair" (defArgs s_Pacts_fits_pair) (defBody s_Pacts_fits_pair) (defScope s_Pacts_fits_pair) .none kV_Pacts_fits_pair dc_Pacts_fits_pair pm_Pacts_fits_pair an_Pacts_fits_pair cd_Pacts_fits_pair ct_Pacts_fits_pair), ff_Pacts_fits_helper, (PySem.W.fnOf "fits_helper" "Pacts.fits_helper" (defArgs s_Pacts_fits_helper) (defBody s_Pacts_fits_helper) (defScope s_Pacts_fits_helper) .none kV_Pacts_fits_helper dc_Pacts_fits_helper pm_Pacts_fits_helper an_Pacts_fits_helper cd_Pacts_fits_helper ct_Pacts_fits_helper), ff_Pacts_words_called, (PySem.W.fnOf "words_called" "Pacts.words_called" (defArgs s_Pacts_words_called) (defBody s_Pacts_words_called) (defScope s_Pacts_words_called) .none kV_Pacts_words_called dc_Pacts_words_called pm_Pacts_words_called an_Pacts_words_called cd_Pacts_words_called ct_Pacts_words_called), ff_Pacts_pairs, (PySem.W.fnOf "pairs" "Pacts.pairs" (defArgs s_Pacts_pairs) (defBody s_Pacts_pairs) (defScope s_Pacts_pairs) .none kV_Pacts_pairs dc_Pacts_pairs pm_Pacts_pairs an_Pacts_pairs cd_Pacts_pairs ct_Pacts_pairs), ff_Pacts_names, (PySem.W.fnOf "names" "Pacts.names" (defArgs s_Pacts_names) (defBody s_Pacts_names) (defScope s_Pacts_names) .none kV_Pacts_names dc_Pacts_names pm_Pacts_names an_Pacts_names cd_Pacts_names ct_Pacts_names), ff_Pacts_pact, (PySem.W.fnOf "pact" "Pacts.pact" (defArgs s_Pacts_pact) (defBody s_Pacts_pact) (defScope s_Pacts_pact) .none kV_Pacts_pact dc_Pacts_pact pm_Pacts_pact an_Pacts_pact cd_Pacts_pact ct_Pacts_pact), ff_Pacts___len__, (PySem.W.fnOf "__len__" "Pacts.__len__" (defArgs s_Pacts___len__) (defBody s_Pacts___len__) (defScope s_Pacts___len__) .none kV_Pacts___len__ dc_Pacts___len__ pm_Pacts___len__ an_Pacts___len__ cd_Pacts___len__ ct_Pacts___len__), ff_Pacts___eq__, (PySem.W.fnOf "__eq__" "Pacts.__eq__" (defArgs s_Pacts___eq__) (defBody s_Pacts___eq__) (defScope s_Pacts___eq__) .none kV_Pacts___eq__ dc_Pacts___eq__ pm_Pacts___eq__ an_Pacts___eq__ cd_Pacts___eq__ ct_Pacts___eq__), ff_Pacts_lines_told, (PySem.W.fnOf "lines_told" "Pacts.lines_told" (defArgs s_Pacts_lines_told) (defBody s_Pacts_lines_told) (defScope s_Pacts_lines_told) .none kV_Pacts_lines_told dc_Pacts_lines_told pm_Pacts_lines_told an_Pacts_lines_told cd_Pacts_lines_told ct_Pacts_lines_told), ff_Pacts___str__, (PySem.W.fnOf "__str__" "Pacts.__str__" (defArgs s_Pacts___str__) (defBody s_Pacts___str__) (defScope s_Pacts___str__) .none kV_Pacts___str__ dc_Pacts___str__ pm_Pacts___str__ an_Pacts___str__ cd_Pacts___str__ ct_Pacts___str__), ff_pair_line, (PySem.W.fnOf "pair_line" "pair_line" (defArgs s_pair_line) (defBody s_pair_line) (defScope s_pair_line) .none kV_pair_line dc_pair_line pm_pair_line an_pair_line cd_pair_line ct_pair_line), ff_helper_line, (PySem.W.fnOf "helper_line" "helper_line" (defArgs s_helper_line) (defBody s_helper_line) (defScope s_helper_line) .none kV_helper_line dc_helper_line pm_helper_line an_helper_line cd_helper_line ct_helper_line), ff_read_pair, (PySem.W.fnOf "read_pair" "read_pair" (defArgs s_read_pair) (defBody s_read_pair) (defScope s_read_pair) .none kV_read_pair dc_read_pair pm_read_pair an_read_pair cd_read_pair ct_read_pair), ff_read_helper, (PySem.W.fnOf "read_helper" "read_helper" (defArgs s_read_helper) (defBody s_read_helper) (defScope s_read_helper) .none kV_read_helper dc_read_helper pm_read_helper an_read_helper cd_read_helper ct_read_helper), ff_read_pacts, (PySem.W.fnOf "read_pacts" "read_pacts" (defArgs s_read_pacts) (defBody s_read_pacts) (defScope s_read_pacts) .none kV_read_pacts dc_read_pacts pm_read_pacts an_read_pacts cd_read_pacts ct_read_pacts), ff__law_box, (PySem.W.fnOf "_law_box" "_law_box" (defArgs s__law_box) (defBody s__law_box) (defScope s__law_box) .none kV__law_box dc__law_box pm__law_box an__law_box cd__law_box ct__law_box), ff__law_mixed, (PySem.W.fnOf "_law_mixed" "_law_mixed" (defArgs s__law_mixed) (defBody s__law_mixed) (defScope s__law_mixed) .none kV__law_mixed dc__law_mixed pm__law_mixed an__law_mixed cd__law_mixed ct__law_mixed), ff__law_take, (PySem.W.fnOf "_law_take" "_law_take" (defArgs s__law_take) (defBody s__law_take) (defScope s__law_take) .none kV__law_take dc__law_take pm__law_take an__law_take cd__law_take ct__law_take), ff__law_name, (PySem.W.fnOf "_law_name" "_law_name" (defArgs s__law_name) (defBody s__law_name) (defScope s__law_name) .none kV__law_name dc__law_name pm__law_name an__law_name cd__law_name ct__law_name), ff__law_names, (PySem.W.fnOf "_law_names" "_law_names" (defArgs s__law_names) (defBody s__law_names) (defScope s__law_names) .none kV__law_names dc__law_names pm__law_names an__law_names cd__law_names ct__law_names), ff__law_pairs, (PySem.W.fnOf "_law_pairs" "_law_pairs" (defArgs s__law_pairs) (defBody s__law_pairs) (defScope s__law_pairs) .none kV__law_pairs dc__law_pairs pm__law_pairs an__law_pairs cd__law_pairs ct__law_pairs), ff__law_some, (PySem.W.fnOf "_law_some" "_law_some" (defArgs s__law_some) (defBody s__law_some) (defScope s__law_some) .none kV__law_some dc__law_some pm__law_some an__law_some cd__law_some ct__law_some), ff__law_helpers, (PySem.W.fnOf "_law_helpers" "_law_helpers" (defArgs s__law_helpers) (defBody s__law_helpers) (defScope s__law_helpers) .none kV__law_helpers dc__law_helpers pm__law_helpers an__law_helpers cd__law_helpers ct__law_helpers), ff__law_line, (PySem.W.fnOf "_law_line" "_law_line" (defArgs s__law_line) (defBody s__law_line) (defScope s__law_line) .none kV__law_line dc__law_line pm__law_line an__law_line cd__law_line ct__law_line), ff__law_text, (PySem.W.fnOf "_law_text" "_law_text" (defArgs s__law_text) (defBody s__law_text) (defScope s__law_text) .none kV__law_text dc__law_text pm__law_text an__law_text cd__law_text ct__law_text), ff__law_pair_read, (PySem.W.fnOf "_law_pair_read" "_law_pair_read" (defArgs s__law_pair_read) (defBody s__law_pair_read) (defScope s__law_pair_read) .none kV__law_pair_read dc__law_pair_read pm__law_pair_read an__law_pair_read cd__law_pair_read ct__law_pair_read), ff__law_helper_read, (PySem.W.fnOf "_law_helper_read" "_law_helper_read" (defArgs s__law_helper_read) (defBody s__law_helper_read) (defScope s__law_helper_read) .none kV__law_helper_read dc__law_helper_read pm__law_helper_read an__law_helper_read cd__law_helper_read ct__law_helper_read), ff__law_read, (PySem.W.fnOf "_law_read" "_law_read" (defArgs s__law_read) (defBody s__law_read) (defScope s__law_read) .none kV__law_read dc__law_read pm__law_read an__law_read cd__law_read ct__law_read), ff__law_is_name, (PySem.W.fnOf "_law_is_name" "_law_is_name" (defArgs s__law_is_name) (defBody s__law_is_name) (defScope s__law_is_name) .none kV__law_is_name dc__law_is_name pm__law_is_name an__law_is_name cd__law_is_name ct__law_is_name), ff__law_pair_fits, (PySem.W.fnOf "_law_pair_fits" "_law_pair_fits" (defArgs s__law_pair_fits) (defBody s__law_pair_fits) (defScope s__law_pair_fits) .none kV__law_pair_fits dc__law_pair_fits pm__law_pair_fits an__law_pair_fits cd__law_pair_fits ct__law_pair_fits), ff__law_helper_fits, (PySem.W.fnOf "_law_helper_fits" "_law_helper_fits" (defArgs s__law_helper_fits) (defBody s__law_helper_fits) (defScope s__law_helper_fits) .none kV__law_helper_fits dc__law_helper_fits pm__law_helper_fits an__law_helper_fits cd__law_helper_fits ct__law_helper_fits), ff__law_first_bad, (PySem.W.fnOf "_law_first_bad" "_law_first_bad" (defArgs s__law_first_bad) (defBody s__law_first_bad) (defScope s__law_first_bad) .none kV__law_first_bad dc__law_first_bad pm__law_first_bad an__law_first_bad cd__law_first_bad ct__law_first_bad), ff__law_row_changed, (PySem.W.fnOf "_law_row_changed" "_law_row_changed" (defArgs s__law_row_changed) (defBody s__law_row_changed) (defScope s__law_row_changed) .none kV__law_row_changed dc__law_row_changed pm__law_row_changed an__law_row_changed cd__law_row_changed ct__law_row_changed), ff__law_changed, (PySem.W.fnOf "_law_changed" "_law_changed" (defArgs s__law_changed) (defBody s__law_changed) (defScope s__law_changed) .none kV__law_changed dc__law_changed pm__law_changed an__law_changed cd__law_changed ct__law_changed), ff__law_made, (PySem.W.fnOf "_law_made" "_law_made" (defArgs s__law_made) (defBody s__law_made) (defScope s__law_made) .none kV__law_made dc__law_made pm__law_made an__law_made cd__law_made ct__law_made), ff_law, (PySem.W.fnOf "law" "law" (defArgs s_law) (defBody s_law) (defScope s_law) .none kV_law dc_law pm_law an_law cd_law ct_law)⟩, { m_Pacts := PySem.W.mg_of X G aC_Pacts, cl_Pacts := ⟨pg_Pacts, hd_Pacts, po_Pacts, sa_Pacts⟩, mk_Pacts := ⟨mk_Pacts, a_Pacts___init__, i_Pacts___init__, kc_Pacts⟩, oc_Pacts := ⟨ocne_Pacts, ocob_Pacts, ocm1_Pacts, ocm2_Pacts, ocm3_Pacts, ocm4_Pacts, ocha_Pacts, ochn_Pacts, ocht_Pacts, ochm_Pacts, ock1_Pacts, ock2_Pacts, ock3_Pacts, ock4_Pacts⟩, na_Pacts_kept_pairs := na_Pacts_kept_pairs, na_Pacts_kept_pacts := na_Pacts_kept_pacts, m_PactError := PySem.W.mg_of X G aC_PactError, m_NoPact := PySem.W.mg_of X G aC_NoPact, ox_NoPact := ⟨⟨_, _, _, _, _, _, _, _, _, _, _, _, _, _, _, xL_NoPact, rfl⟩, sa_NoPact, bE_NoPact, ty_NoPact, kc_NoPact⟩, xf_NoPact := ⟨ga_NoPact, gg_NoPact, bE_NoPact, hd_NoPact⟩, ec_NoPact := ⟨ga_NoPact, gg_NoPact, bE_NoPact, hd_NoPact, cc__NoPact, sGet, tGet, mo_NoPact⟩, ini_NoPact := a_NoPact___init__, ti_NoPact := ti_NoPact, na_NoPact_at := na_NoPact_at, m_NoText := PySem.W.mg_of X G aC_NoText, ox_NoText := ⟨⟨_, _, _, _, _, _, _, _, _, _, _, _, _, _, _, xL_NoText, rfl⟩, sa_NoText, bE_NoText, ty_NoText, kc_NoText⟩, xf_NoText := ⟨ga_NoText, gg_NoText, bE_NoText, hd_NoText⟩, ec_NoText := ⟨ga_NoText, gg_NoText, bE_NoText, hd_NoText, cc__NoText, sGet, tGet, mo_NoText⟩, ini_NoText := a_NoText___init__, ti_NoText := ti_NoText, na_NoText_at := na_NoText_at, m_NoHelper := PySem.W.mg_of X G aC_NoHelper, ox_NoHelper := ⟨⟨_, _, _, _, _, _, _, _, _, _, _, _, _, _, _, xL_NoHelper, rfl⟩, sa_NoHelper, bE_NoHelper, ty_NoHelper, kc_NoHelper⟩, xf_NoHelper := ⟨ga_NoHelper, gg_NoHelper, bE_NoHelper, hd_NoHelper⟩, ec_NoHelper := ⟨ga_NoHelper, gg_NoHelper, bE_NoHelper, hd_NoHelper, cc__NoHelper, sGet, tGet, mo_NoHelper⟩, ini_NoHelper := a_NoHelper___init__, ti_NoHelper := ti_NoHelper, na_NoHelper_name := na_NoHelper_name, ex_NoPact_NoPact := PySem.W.exm_ref bE_NoPact hd_NoPact ty_NoPact su_NoPact_NoPact, ex_NoPact_PactError := PySem.W.exm_ref bE_PactError hd_PactError ty_PactError su_NoPact_PactError, ex_NoPact_NoText := PySem.W.exm_ref bE_NoText hd_NoText ty_NoText su_NoPact_NoText, ex_NoPact_ValueError := su_NoPact_ValueError, ex_NoText_NoText := PySem.W.exm_ref bE_NoText hd_NoText ty_NoText su_NoText_NoText, ex_NoText_PactError := PySem.W.exm_ref bE_PactError hd_PactError ty_PactError su_NoText_PactError, ex_NoText_NoPact := PySem.W.exm_ref bE_NoPact hd_NoPact ty_NoPact su_NoText_NoPact, ex_NoText_ValueError := su_NoText_ValueError, F_NoPact___init__ := F_NoPact___init__, b_NoPact___init__ := b_NoPact___init__, F_NoText___init__ := F_NoText___init__, b_NoText___init__ := b_NoText___init__, F_NoHelper___init__ := F_NoHelper___init__, b_NoHelper___init__ := b_NoHelper___init__, m_is_name := PySem.W.mg_of X G a_is_name, F_is_name := F_is_name, b_is_name := b_is_name, F_Pacts___init__ := F_Pacts___init__, b_Pacts___init__ := b_Pacts___init__, mt_Pacts_fits_pair := ⟨a_Pacts_fits_pair, i_Pacts_fits_pair, k_Pacts_fits_pair⟩, F_Pacts_fits_pair := F_Pacts_fits_pair, b_Pacts_fits_pair := b_Pacts_fits_pair, mt_Pacts_fits_helper := ⟨a_Pacts_fits_helper, i_Pacts_fits_helper, k_Pacts_fits_helper⟩, F_Pacts_fits_helper := F_Pacts_fits_helper, b_Pacts_fits_helper := b_Pacts_fits_helper, mt_Pacts_words_called := ⟨a_Pacts_words_called, i_Pacts_words_called, k_Pacts_words_called⟩, F_Pacts_words_called := F_Pacts_words_called, b_Pacts_words_called := b_Pacts_words_called, mt_Pacts_pairs := ⟨a_Pacts_pairs, i_Pacts_pairs, k_Pacts_pairs⟩, F_Pacts_pairs := F_Pacts_pairs, b_Pacts_pairs := b_Pacts_pairs, mt_Pacts_names := ⟨a_Pacts_names, i_Pacts_names, k_Pacts_names⟩, F_Pacts_names := F_Pacts_names, b_Pacts_names := b_Pacts_names, mt_Pacts_pact := ⟨a_Pacts_pact, i_Pacts_pact, k_Pacts_pact⟩, F_Pacts_pact := F_Pacts_pact, b_Pacts_pact := b_Pacts_pact, mt_Pacts___len__ := ⟨a_Pacts___len__, i_Pacts___len__, k_Pacts___len__⟩, F_Pacts___len__ := F_Pacts___len__, b_Pacts___len__ := b_Pacts___len__, mt_Pacts___eq__ := ⟨a_Pacts___eq__, i_Pacts___eq__, k_Pacts___eq__⟩, F_Pacts___eq__ := F_Pacts___eq__, b_Pacts___eq__ := b_Pacts___eq__, mt_Pacts_lines_told := ⟨a_Pacts_lines_told, i_Pacts_lines_told, k_Pacts_lines_told⟩, F_Pacts_lines_told := F_Pacts_lines_told, b_Pacts_lines_told := b_Pacts_lines_told, mt_Pacts___str__ := ⟨a_Pacts___str__, i_Pacts___str__, k_Pacts___str__⟩, F_Pacts___str__ := F_Pacts___str__, b_Pacts___str__ := b_Pacts___str__, m_pair_line := PySem.W.mg_of X G a_pair_line, F_pair_line := F_pair_line, b_pair_line := b_pair_line, m_helper_line := PySem.W.mg_of X G a_helper_line, F_helper_line := F_helper_line, b_helper_line := b_helper_line, m_read_pair := PySem.W.mg_of X G a_read_pair, F_read_pair := F_read_pair, b_read_pair := b_read_pair, m_read_helper := PySem.W.mg_of X G a_read_helper, F_read_helper := F_read_helper, b_read_helper := b_read_helper, m_read_pacts := PySem.W.mg_of X G a_read_pacts, F_read_pacts := F_read_pacts, b_read_pacts := b_read_pacts, m__law_box := PySem.W.mg_of X G a__law_box, F__law_box := F__law_box, b__law_box := b__law_box, m__law_mixed := PySem.W.mg_of X G a__law_mixed, F__law_mixed := F__law_mixed, b__law_mixed := b__law_mixed, m__law_take := PySem.W.mg_of X G a__law_take, F__law_take := F__law_take, b__law_take := b__law_take, m__law_name := PySem.W.mg_of X G a__law_name, F__law_name := F__law_name, b__law_name := b__law_name, m__law_names := PySem.W.mg_of X G a__law_names, F__law_names := F__law_names, b__law_names := b__law_names, m__law_pairs := PySem.W.mg_of X G a__law_pairs, F__law_pairs := F__law_pairs, b__law_pairs := b__law_pairs, m__law_some := PySem.W.mg_of X G a__law_some, F__law_some := F__law_some, b__law_some := b__law_some, m__law_helpers := PySem.W.mg_of X G a__law_helpers, F__law_helpers := F__law_helpers, b__law_helpers := b__law_helpers, m__law_line := PySem.W.mg_of X G a__law_line, F__law_line := F__law_line, b__law_line := b__law_line, m__law_text := PySem.W.mg_of X G a__law_text, F__law_text := F__law_text, b__law_text := b__law_text, m__law_pair_read := PySem.W.mg_of X G a__law_pair_read, F__law_pair_read := F__law_pair_read, b__law_pair_read := b__law_pair_read, m__law_helper_read := PySem.W.mg_of X G a__law_helper_read, F__law_helper_read := F__law_helper_read, b__law_helper_read := b__law_helper_read, m__law_read := PySem.W.mg_of X G a__law_read, F__law_read := F__law_read, b__law_read := b__law_read, m__law_is_name := PySem.W.mg_of X G a__law_is_name, F__law_is_name := F__law_is_name, b__law_is_name := b__law_is_name, m__law_pair_fits := PySem.W.mg_of X G a__law_pair_fits, F__law_pair_fits := F__law_pair_fits, b__law_pair_fits := b__law_pair_fits, m__law_helper_fits := PySem.W.mg_of X G a__law_helper_fits, F__law_helper_fits := F__law_helper_fits, b__law_helper_fits := b__law_helper_fits, m__law_first_bad := PySem.W.mg_of X G a__law_first_bad, F__law_first_bad := F__law_first_bad, b__law_first_bad := b__law_first_bad, m__law_row_changed := PySem.W.mg_of X G a__law_row_changed, F__law_row_changed := F__law_row_changed, b__law_row_changed := b__law_row_changed, m__law_changed := PySem.W.mg_of X G a__law_changed, F__law_changed := F__law_changed, b__law_changed := b__law_changed, m__law_made := PySem.W.mg_of X G a__law_made, F__law_made := F__law_made, b__law_made := b__law_made, m_law := PySem.W.mg_of X G a_law, F_law := F_law, b_law := b_law, kb_read_pacts_text := kb_ofn (n := 0) (m := 1) F_read_pacts rfl (by decide) (fun _ _ _ _ _ _ us ws hu hw => match us, ws, hu, hw with | [], [_], _, _ => rfl), z_all := PySem.W.mg_none_of X G z_all, z_len := PySem.W.mg_none_of X G z_len, z_enumerate := PySem.W.mg_none_of X G z_enumerate, z_any := PySem.W.mg_none_of X G z_any, z_set := PySem.W.mg_none_of X G z_set, z_list := PySem.W.mg_none_of X G z_list, z_isinstance := PySem.W.mg_none_of X G z_isinstance, z_str := PySem.W.mg_none_of X G z_str, z_int := PySem.W.mg_none_of X G z_int, z_tuple := PySem.W.mg_none_of X G z_tuple, z_range := PySem.W.mg_none_of X G z_range, z_zip := PySem.W.mg_none_of X G z_zip, z_min := PySem.W.mg_none_of X G z_min, z_ValueError := PySem.W.mg_none_of X G z_ValueError, g_LETTERS := ⟨_, PySem.W.mg_of X G g_LETTERS⟩, g_MOST := ⟨_, PySem.W.mg_of X G g_MOST⟩, g_MOST_PAIRS := ⟨_, PySem.W.mg_of X G g_MOST_PAIRS⟩, g_MOST_HELPERS := ⟨_, PySem.W.mg_of X G g_MOST_HELPERS⟩, g_MOST_TAKES := ⟨_, PySem.W.mg_of X G g_MOST_TAKES⟩, g_MOST_THROWS := ⟨_, PySem.W.mg_of X G g_MOST_THROWS⟩, g_HOWS := PySem.W.mg_of X G g_HOWS, tp_HOWS := fun H => .inr ⟨_, _, _, tl_HOWS, rfl, rfl, (by show 2 ≤ sizeLine; decide), (.cons ⟨_, rfl⟩ (.cons ⟨_, rfl⟩ .nil))⟩ }⟩
theorem all_end {l : PySem.W.OpenLaw} {w : World} {K : PySem.W.Frag} {h : Heap} {mg : Str → Option Value} {fa : Addr} (X : K.In h) (G : h.Ns mainGlobals mg) (hfa : mg "law" = some (.ref fa)) (hT : ∃ a : Ad, Txt K mg a) :
    ∃ fd : FuncData, (∀ (s : Shared) (v : Value), BindsTo s fd ⟨[v], []⟩ [("_law_script", v)]) ∧ ∀ base : Heap, K.In base → base.Ns mainGlobals mg → FnOk l.prog w K mg base CX0 7 fa fd ["_law_script"] (spLaw K) := by
  obtain ⟨a, T⟩ := hT
  have e := hfa.symm.trans T.m_law
  cases e
  obtain ⟨oc, od, kV, doc, pm, an, cdv, ct, osl, e, lk, hcd⟩ := T.F_law.ex
  refine ⟨a.d_law, fun s v => ?_, fun base _ _ => ok_law T⟩
  rw [e]
  exact .of_eq rfl
theorem walk {l : PySem.W.OpenLaw} {q : Program} {loose : List Str} {XP : (Str → Option Value) → Heap → Prop} {YP : World → Heap → Prop} {d : DefRec} {K : Params → PySem.W.Frag} (hn : l.most = some 63) (hdf : d.params.defaults = [])
    (hY : ∀ (w : World) (h : Heap), YP w h → (K w.params).In h)
    (F : ∀ (w : World) (mg : Str → Option Value) (fa : Addr) (h : Heap), (K w.params).In h → h.Ns mainGlobals mg → mg d.name = some (.ref fa) →
      ∃ fd : FuncData, (∀ (s : Shared) (u : Value), BindsTo s fd ⟨[u], []⟩ [("_law_script", u)]) ∧ ∀ base : Heap, (K w.params).In base → base.Ns mainGlobals mg → FnOk l.prog w (K w.params) mg base CX0 7 fa fd ["_law_script"] (spLaw (K w.params))) :
    PySem.W.WalkO q loose XP YP l.row.toRowW d [] (fun f vs => PySem.call f vs) :=
  L2.walk_of (n := 63) (k := 7) (x := "_law_script") (CX := fun _ => CX0) (sp := fun w => spLaw (K w.params)) hn (by decide) hdf ⟨rfl, by decide, by decide⟩ hY F (fun _ _ a ns hl _ hS => ⟨a, ns, rfl, hS, hl, fun _ => rfl⟩) fun _ _ _ _ _ z => z
end Pf
open PySem PySem.W PyProof.Rows in
set_option maxRecDepth 100000 in
set_option maxHeartbeats 0 in
theorem PySem.Challenge.cw_pactford_k04_pacts_texts_holds : PySem.Challenge.rw_pactford_k04_pacts_texts.Holds := by
  w_on; o_law; k_head; (case hw => w_witness2)
  k_fill
  refine Pf.walk (l := PySem.Challenge.rw_pactford_k04_pacts_texts) rfl rfl (fun w h Y => PySem.W.kIn_of Y) ?F
  case F =>
    intro w mg fa h KX G hmg
    refine' Pf.all_end KX G hmg (Pf.all_mk KX G ?aC_Pacts ?pg_Pacts ?hd_Pacts ?po_Pacts ?sa_Pacts ?mk_Pacts ?kc_Pacts ?ocne_Pacts ?ocob_Pacts ?ocm1_Pacts ?ocm2_Pacts ?ocm3_Pacts ?ocm4_Pacts ?ocha_Pacts ?ochn_Pacts ?ocht_Pacts ?ochm_Pacts ?ock1_Pacts ?ock2_Pacts ?ock3_Pacts ?ock4_Pacts ?na_Pacts_kept_pairs ?na_Pacts_kept_pacts ?aC_PactError ?bE_PactError ?hd_PactError ?ty_PactError ?aC_NoPact ?bE_NoPact ?hd_NoPact ?ty_NoPact ?xL_NoPact ?sa_NoPact ?ga_NoPact ?gg_NoPact ?kc_NoPact ?cc__NoPact ?mo_NoPact ?na_NoPact_at ?aC_NoText ?bE_NoText ?hd_NoText ?ty_NoText ?xL_NoText ?sa_NoText ?ga_NoText ?gg_NoText ?kc_NoText ?cc__NoText ?mo_NoText ?na_NoText_at ?aC_NoHelper ?bE_NoHelper ?hd_NoHelper ?ty_NoHelper ?xL_NoHelper ?sa_NoHelper ?ga_NoHelper ?gg_NoHelper ?kc_NoHelper ?cc__NoHelper ?mo_NoHelper ?na_NoHelper_name ?sGet ?tGet ?su_NoPact_NoPact ?su_NoPact_PactError ?su_NoPact_NoText ?su_NoPact_ValueError ?su_NoText_NoText ?su_NoText_PactError ?su_NoText_NoPact ?su_NoText_ValueError ?a_NoPact___init__ ?i_NoPact___init__ ?l_NoPact___init__ ?c_NoPact___init__ ?k_NoPact___init__ ?a_NoText___init__ ?i_NoText___init__ ?l_NoText___init__ ?c_NoText___init__ ?k_NoText___init__ ?a_NoHelper___init__ ?i_NoHelper___init__ ?l_NoHelper___init__ ?c_NoHelper___init__ ?k_NoHelper___init__ ?a_is_name ?l_is_name ?c_is_name ?k_is_name ?a_Pacts___init__ ?i_Pacts___init__ ?l_Pacts___init__ ?c_Pacts___init__ ?k_Pacts___init__ ?a_Pacts_fits_pair ?i_Pacts_fits_pair ?l_Pacts_fits_pair ?c_Pacts_fits_pair ?k_Pacts_fits_pair ?a_Pacts_fits_helper ?i_Pacts_fits_helper ?l_Pacts_fits_helper ?c_Pacts_fits_helper ?k_Pacts_fits_helper ?a_Pacts_words_called ?i_Pacts_words_called ?l_Pacts_words_called ?c_Pacts_words_called ?k_Pacts_words_called ?a_Pacts_pairs ?i_Pacts_pairs ?l_Pacts_pairs ?c_Pacts_pairs ?k_Pacts_pairs ?a_Pacts_names ?i_Pacts_names ?l_Pacts_names ?c_Pacts_names ?k_Pacts_names ?a_Pacts_pact ?i_Pacts_pact ?l_Pacts_pact ?c_Pacts_pact ?k_Pacts_pact ?a_Pacts___len__ ?i_Pacts___len__ ?l_Pacts___len__ ?c_Pacts___len__ ?k_Pacts___len__ ?a_Pacts___eq__ ?i_Pacts___eq__ ?l_Pacts___eq__ ?c_Pacts___eq__ ?k_Pacts___eq__ ?a_Pacts_lines_told ?i_Pacts_lines_told ?l_Pacts_lines_told ?c_Pacts_lines_told ?k_Pacts_lines_told ?a_Pacts___str__ ?i_Pacts___str__ ?l_Pacts___str__ ?c_Pacts___str__ ?k_Pacts___str__ ?a_pair_line ?l_pair_line ?c_pair_line ?k_pair_line ?a_helper_line ?l_helper_line ?c_helper_line ?k_helper_line ?a_read_pair ?l_read_pair ?c_read_pair ?k_read_pair ?a_read_helper ?l_read_helper ?c_read_helper ?k_read_helper ?a_read_pacts ?l_read_pacts ?c_read_pacts ?k_read_pacts ?a__law_box ?l__law_box ?c__law_box ?k__law_box ?a__law_mixed ?l__law_mixed ?c__law_mixed ?k__law_mixed ?a__law_take ?l__law_take ?c__law_take ?k__law_take ?a__law_name ?l__law_name ?c__law_name ?k__law_name ?a__law_names ?l__law_names ?c__law_names ?k__law_names ?a__law_pairs ?l__law_pairs ?c__law_pairs ?k__law_pairs ?a__law_some ?l__law_some ?c__law_some ?k__law_some ?a__law_helpers ?l__law_helpers ?c__law_helpers ?k__law_helpers ?a__law_line ?l__law_line ?c__law_line ?k__law_line ?a__law_text ?l__law_text ?c__law_text ?k__law_text ?a__law_pair_read ?l__law_pair_read ?c__law_pair_read ?k__law_pair_read ?a__law_helper_read ?l__law_helper_read ?c__law_helper_read ?k__law_helper_read ?a__law_read ?l__law_read ?c__law_read ?k__law_read ?a__law_is_name ?l__law_is_name ?c__law_is_name ?k__law_is_name ?a__law_pair_fits ?l__law_pair_fits ?c__law_pair_fits ?k__law_pair_fits ?a__law_helper_fits ?l__law_helper_fits ?c__law_helper_fits ?k__law_helper_fits ?a__law_first_bad ?l__law_first_bad ?c__law_first_bad ?k__law_first_bad ?a__law_row_changed ?l__law_row_changed ?c__law_row_changed ?k__law_row_changed ?a__law_changed ?l__law_changed ?c__law_changed ?k__law_changed ?a__law_made ?l__law_made ?c__law_made ?k__law_made ?a_law ?l_law ?c_law ?k_law ?ti_NoPact ?ti_NoText ?ti_NoHelper ?z_all ?z_len ?z_enumerate ?z_any ?z_set ?z_list ?z_isinstance ?z_str ?z_int ?z_tuple ?z_range ?z_zip ?z_min ?z_ValueError ?g_LETTERS ?g_MOST ?g_MOST_PAIRS ?g_MOST_HELPERS ?g_MOST_TAKES ?g_MOST_THROWS ?g_HOWS ?tl_HOWS)
    (case aC_Pacts => k_is)
    (case pg_Pacts => k_is)
    (case hd_Pacts => k_is)
    (case po_Pacts => k_is)
    (case sa_Pacts => k_is)
    (case mk_Pacts => k_is)
    (case kc_Pacts => k_is)
    (case ocne_Pacts => k_is)
    (case ocob_Pacts => first | rfl | k_is)
    (case ocm1_Pacts => first | rfl | k_is)
    (case ocm2_Pacts => first | rfl | k_is)
    (case ocm3_Pacts => first | rfl | k_is)
    (case ocm4_Pacts => first | rfl | k_is)
    (case ocha_Pacts => k_is)
    (case ochn_Pacts => k_is)
    (case ocht_Pacts => k_is)
    (case ochm_Pacts => k_is)
    (case ock1_Pacts => first | rfl | k_is)
    (case ock2_Pacts => first | rfl | k_is)
    (case ock3_Pacts => first | rfl | k_is)
    (case ock4_Pacts => first | rfl | k_is)
    (case na_Pacts_kept_pairs => k_is)
    (case na_Pacts_kept_pacts => k_is)
    (case aC_PactError => k_is)
    (case bE_PactError => k_is)
    (case hd_PactError => k_is)
    (case ty_PactError => k_is)
    (case aC_NoPact => k_is)
    (case bE_NoPact => k_is)
    (case hd_NoPact => k_is)
    (case ty_NoPact => k_is)
    (case xL_NoPact => k_is)
    (case sa_NoPact => k_is)
    (case ga_NoPact => k_is)
    (case gg_NoPact => k_is)
    (case kc_NoPact => k_is)
    (case cc__NoPact => k_is)
    (case mo_NoPact => k_is)
    (case na_NoPact_at => k_is)
    (case aC_NoText => k_is)
    (case bE_NoText => k_is)
    (case hd_NoText => k_is)
    (case ty_NoText => k_is)
    (case xL_NoText => k_is)
    (case sa_NoText => k_is)
    (case ga_NoText => k_is)
    (case gg_NoText => k_is)
    (case kc_NoText => k_is)
    (case cc__NoText => k_is)
    (case mo_NoText => k_is)
    (case na_NoText_at => k_is)
    (case aC_NoHelper => k_is)
    (case bE_NoHelper => k_is)
    (case hd_NoHelper => k_is)
    (case ty_NoHelper => k_is)
    (case xL_NoHelper => k_is)
    (case sa_NoHelper => k_is)
    (case ga_NoHelper => k_is)
    (case gg_NoHelper => k_is)
    (case kc_NoHelper => k_is)
    (case cc__NoHelper => k_is)
    (case mo_NoHelper => k_is)
    (case na_NoHelper_name => k_is)
    (case sGet => k_is)
    (case tGet => k_is)
    (case su_NoPact_NoPact => first | rfl | k_is)
    (case su_NoPact_PactError => first | rfl | k_is)
    (case su_NoPact_NoText => first | rfl | k_is)
    (case su_NoPact_ValueError => first | rfl | k_is)
    (case su_NoText_NoText => first | rfl | k_is)
    (case su_NoText_PactError => first | rfl | k_is)
    (case su_NoText_NoPact => first | rfl | k_is)
    (case su_NoText_ValueError => first | rfl | k_is)
    (case a_NoPact___init__ => k_is)
    (case i_NoPact___init__ => k_is)
    (case l_NoPact___init__ => k_is)
    (case c_NoPact___init__ => k_is)
    (case k_NoPact___init__ => k_is)
    (case a_NoText___init__ => k_is)
    (case i_NoText___init__ => k_is)
    (case l_NoText___init__ => k_is)
    (case c_NoText___init__ => k_is)
    (case k_NoText___init__ => k_is)
    (case a_NoHelper___init__ => k_is)
    (case i_NoHelper___init__ => k_is)
    (case l_NoHelper___init__ => k_is)
    (case c_NoHelper___init__ => k_is)
    (case k_NoHelper___init__ => k_is)
    (case a_is_name => k_is)
    (case l_is_name => k_is)
    (case c_is_name => k_is)
    (case k_is_name => k_is)
    (case a_Pacts___init__ => k_is)
    (case i_Pacts___init__ => k_is)
    (case l_Pacts___init__ => k_is)
    (case c_Pacts___init__ => k_is)
    (case k_Pacts___init__ => k_is)
    (case a_Pacts_fits_pair => k_is)
    (case i_Pacts_fits_pair => k_is)
    (case l_Pacts_fits_pair => k_is)
    (case c_Pacts_fits_pair => k_is)
    (case k_Pacts_fits_pair => k_is)
    (case a_Pacts_fits_helper => k_is)
    (case i_Pacts_fits_helper => k_is)
    (case l_Pacts_fits_helper => k_is)
    (case c_Pacts_fits_helper => k_is)
    (case k_Pacts_fits_helper => k_is)
    (case a_Pacts_words_called => k_is)
    (case i_Pacts_words_called => k_is)
    (case l_Pacts_words_called => k_is)
    (case c_Pacts_words_called => k_is)
    (case k_Pacts_words_called => k_is)
    (case a_Pacts_pairs => k_is)
    (case i_Pacts_pairs => k_is)
    (case l_Pacts_pairs => k_is)
    (case c_Pacts_pairs => k_is)
    (case k_Pacts_pairs => k_is)
    (case a_Pacts_names => k_is)
    (case i_Pacts_names => k_is)
    (case l_Pacts_names => k_is)
    (case c_Pacts_names => k_is)
    (case k_Pacts_names => k_is)
    (case a_Pacts_pact => k_is)
    (case i_Pacts_pact => k_is)
    (case l_Pacts_pact => k_is)
    (case c_Pacts_pact => k_is)
    (case k_Pacts_pact => k_is)
    (case a_Pacts___len__ => k_is)
    (case i_Pacts___len__ => k_is)
    (case l_Pacts___len__ => k_is)
    (case c_Pacts___len__ => k_is)
    (case k_Pacts___len__ => k_is)
    (case a_Pacts___eq__ => k_is)
    (case i_Pacts___eq__ => k_is)
    (case l_Pacts___eq__ => k_is)
    (case c_Pacts___eq__ => k_is)
    (case k_Pacts___eq__ => k_is)
    (case a_Pacts_lines_told => k_is)
    (case i_Pacts_lines_told => k_is)
    (case l_Pacts_lines_told => k_is)
    (case c_Pacts_lines_told => k_is)
    (case k_Pacts_lines_told => k_is)
    (case a_Pacts___str__ => k_is)
    (case i_Pacts___str__ => k_is)
    (case l_Pacts___str__ => k_is)
    (case c_Pacts___str__ => k_is)
    (case k_Pacts___str__ => k_is)
    (case a_pair_line => k_is)
    (case l_pair_line => k_is)
    (case c_pair_line => k_is)
    (case k_pair_line => k_is)
    (case a_helper_line => k_is)
    (case l_helper_line => k_is)
    (case c_helper_line => k_is)
    (case k_helper_line => k_is)
    (case a_read_pair => k_is)
    (case l_read_pair => k_is)
    (case c_read_pair => k_is)
    (case k_read_pair => k_is)
    (case a_read_helper => k_is)
    (case l_read_helper => k_is)
    (case c_read_helper => k_is)
    (case k_read_helper => k_is)
    (case a_read_pacts => k_is)
    (case l_read_pacts => k_is)
    (case c_read_pacts => k_is)
    (case k_read_pacts => k_is)
    (case a__law_box => k_is)
    (case l__law_box => k_is)
    (case c__law_box => k_is)
    (case k__law_box => k_is)
    (case a__law_mixed => k_is)
    (case l__law_mixed => k_is)
    (case c__law_mixed => k_is)
    (case k__law_mixed => k_is)
    (case a__law_take => k_is)
    (case l__law_take => k_is)
    (case c__law_take => k_is)
    (case k__law_take => k_is)
    (case a__law_name => k_is)
    (case l__law_name => k_is)
    (case c__law_name => k_is)
    (case k__law_name => k_is)
    (case a__law_names => k_is)
    (case l__law_names => k_is)
    (case c__law_names => k_is)
    (case k__law_names => k_is)
    (case a__law_pairs => k_is)
    (case l__law_pairs => k_is)
    (case c__law_pairs => k_is)
    (case k__law_pairs => k_is)
    (case a__law_some => k_is)
    (case l__law_some => k_is)
    (case c__law_some => k_is)
    (case k__law_some => k_is)
    (case a__law_helpers => k_is)
    (case l__law_helpers => k_is)
    (case c__law_helpers => k_is)
    (case k__law_helpers => k_is)
    (case a__law_line => k_is)
    (case l__law_line => k_is)
    (case c__law_line => k_is)
    (case k__law_line => k_is)
    (case a__law_text => k_is)
    (case l__law_text => k_is)
    (case c__law_text => k_is)
    (case k__law_text => k_is)
    (case a__law_pair_read => k_is)
    (case l__law_pair_read => k_is)
    (case c__law_pair_read => k_is)
    (case k__law_pair_read => k_is)
    (case a__law_helper_read => k_is)
    (case l__law_helper_read => k_is)
    (case c__law_helper_read => k_is)
    (case k__law_helper_read => k_is)
    (case a__law_read => k_is)
    (case l__law_read => k_is)
    (case c__law_read => k_is)
    (case k__law_read => k_is)
    (case a__law_is_name => k_is)
    (case l__law_is_name => k_is)
    (case c__law_is_name => k_is)
    (case k__law_is_name => k_is)
    (case a__law_pair_fits => k_is)
    (case l__law_pair_fits => k_is)
    (case c__law_pair_fits => k_is)
    (case k__law_pair_fits => k_is)
    (case a__law_helper_fits => k_is)
    (case l__law_helper_fits => k_is)
    (case c__law_helper_fits => k_is)
    (case k__law_helper_fits => k_is)
    (case a__law_first_bad => k_is)
    (case l__law_first_bad => k_is)
    (case c__law_first_bad => k_is)
    (case k__law_first_bad => k_is)
    (case a__law_row_changed => k_is)
    (case l__law_row_changed => k_is)
    (case c__law_row_changed => k_is)
    (case k__law_row_changed => k_is)
    (case a__law_changed => k_is)
    (case l__law_changed => k_is)
    (case c__law_changed => k_is)
    (case k__law_changed => k_is)
    (case a__law_made => k_is)
    (case l__law_made => k_is)
    (case c__law_made => k_is)
    (case k__law_made => k_is)
    (case a_law => k_is)
    (case l_law => k_is)
    (case c_law => k_is)
    (case k_law => k_is)
    (case ti_NoPact => k_is)
    (case ti_NoText => k_is)
    (case ti_NoHelper => k_is)
    (case z_all => k_is)
    (case z_len => k_is)
    (case z_enumerate => k_is)
    (case z_any => k_is)
    (case z_set => k_is)
    (case z_list => k_is)
    (case z_isinstance => k_is)
    (case z_str => k_is)
    (case z_int => k_is)
    (case z_tuple => k_is)
    (case z_range => k_is)
    (case z_zip => k_is)
    (case z_min => k_is)
    (case z_ValueError => k_is)
    (case g_LETTERS => k_is)
    (case g_MOST => k_is)
    (case g_MOST_PAIRS => k_is)
    (case g_MOST_HELPERS => k_is)
    (case g_MOST_TAKES => k_is)
    (case g_MOST_THROWS => k_is)
    (case g_HOWS => k_is)
    (case tl_HOWS => k_is)
