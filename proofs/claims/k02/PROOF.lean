import PyProof.Rows.All
import Wide.All
import OpenK.AllK
import Wide.FinOn
import HandS.ForMost
import HandS.NoneIn
import HandS.More
import HandS.SortInts
import HandS.Wide
import HandS.IsInst
import HandS.EndBits
import HandS.TupAny
import HandS.Walk
import HandS.ForExc
import HandS.TryMany
import HandS.ExcInit
import HandS.ExcField
import HandS.ExcIs
import HandS.Strs
import HandS.ExcOwn
import PyProof.EnumMake
import PyProof.Draws
import KE.GoesMore
import HandS.OwnEq
import HandS.MakeKwOnly
import HandS.Style
import HandS.FStr
import PySem.Challenge.RW_pactford_k02_pacts_told
set_option Elab.async false
set_option linter.all false
set_option maxRecDepth 100000
set_option maxHeartbeats 4000000
/-! Rules that the hand layer lacks, for these programs. -/
namespace L2
open PySem PySem.Spec PyProof.Rows
section
variable {X : Cx}
theorem get_list : PGet X (rIxL X.K) := by
  intro pins s σ H x y v u Q I rx ry h
  obtain ⟨p, xs, i, z, rfl, rfl, hq, he, q⟩ := h
  cases rx
  obtain ⟨t, rfl⟩ := ry
  obtain ⟨its, r, pl, hz⟩ := I.list hq
  obtain ⟨j, h1, h2, h3, h4, h5⟩ := atI_get he
  obtain ⟨w, ew, rw'⟩ := r.get h2
  have hl := r.length
  have hn := line63
  have fin : EP X pins σ Q w s := ⟨z, H, I, rw', q⟩
  by_cases h0 : 0 ≤ i
  · have hj : i.toNat = j := by
      rw [seqIndex_of h0 h5] at h1
      exact Option.some.inj h1
    exact wpAny_getItem_list pl.isList h0 (by omega) (by rw [hj]; simpa using ew) fin
  · have hj : (i + (its.toArray.size : Int)).toNat = j := by
      rw [seqIndex_neg (by omega) h4] at h1
      rw [List.size_toArray, ← hl]
      exact Option.some.inj h1
    exact wpAny_getItem_list_neg pl.isList (by omega) (by rw [List.size_toArray] <;> omega) (by omega) (by rw [hj]; simpa using ew) fin
end
section
variable {X : Cx} {CX : CXT} {k : Nat} {f C : Addr} {fd : FuncData} {ps ks : List Str} {sp : Sp} {E : XK} {x m : Str} {p pos apos kpos : Pos} {e o : Expr} {es : List Expr} {kws : List Keyword} {te ta : TE} {t tk : TA} {nm : Option Str}
variable {g : List Value → List Value → List Value} {gV : List V → List V → List V}
/-- o.m(.., k = v, ..) -/
def tMethK (C : Addr) (m : Str) (sp : Sp) (gV : List V → List V → List V) (E : XK) (ta : TE) (t tk : TA) : TE := fun σ H Q => ta σ H fun x H1 => ∃ a dx fs, x = .ref a ∧ H1 a = some (.ins C dx fs) ∧ fs.lookup m = none ∧
  t σ H1 fun vs H2 => tk σ H2 fun zs H3 => sp (gV (x :: vs) zs) H3 Q E
theorem pe_methK0 {pl : Sem Bool} (he : PE X o ta) (c : Cls X.K C) (hm : Meth X.K C m f) (F : FnOk X.prog X.w X.K X.mg X.base CX k f fd ps sp) (hr : Room k X.A) (hb : KBinds X.K fd ps ks g gV) (hx : Passes CX X E) (hkw : PK X kws tk)
    (hall : (backToKw pos (keywordEach kws X.env)).all (·.1.isSome) = true := by rfl) (hks : (backToKw pos (keywordEach kws X.env)).filterMap (·.1) = ks := by rfl)
    (hpl : ((backTo pos (starEach [] X.env)).any (·.1) || (backToKw pos (keywordEach kws X.env)).any (·.1.isNone)) = false := by rfl)
    (ht : eval (.Call (.Attribute o m apos) [] kws pos) X.env = (do
      let ov ← eval o X.env
      standAt apos.atName
      let (f, first) ← holding [ov] (getMethod ov m pl)
      callWith pos f first (backTo pos (starEach [] X.env)) (backToKw pos (keywordEach kws X.env))) := by rfl) :
    PE X (.Call (.Attribute o m apos) [] kws pos) (tMethK C m sp gV E ta tNil tk) := by
  refine ⟨fun pins s σ H Q I h => ?_⟩
  refine PySem.W.methodCall_KW (pl := pl) (thn (he.run pins s σ H _ I h) fun u s1 ⟨x, H1, I1, rx, a, dx, fs, ex, ea, l, q⟩ => ?_) ht
  subst ex
  obtain rfl : u = Value.ref a := rx
  refine getmeth_ok I1 ea c hm l ?_
  refine PySem.W.callWith_KW0 (first := [.ref a]) (h₀ := X.base) I.ok.mod.kin hm.kp hall (thn (hkw.run pos pins s1 σ H1 _ I1 q) fun ws s2 ⟨zs, H2, I2, rz, q2⟩ => ⟨I2.kIn, ?_⟩) hpl
  rw [hks]
  exact run_fnk (us := [.ref a]) (vs := [.ref a]) F hr hb hx I2 (.cons rfl .nil) rz q2
theorem pe_methK {pl : Sem Bool} (he : PE X o ta) (c : Cls X.K C) (hm : Meth X.K C m f) (F : FnOk X.prog X.w X.K X.mg X.base CX k f fd ps sp) (hr : Room k X.A) (hb : KBinds X.K fd ps ks g gV) (hx : Passes CX X E) (ha : PA X (e :: es) t) (hkw : PK X kws tk)
    (hall : (backToKw pos (keywordEach kws X.env)).all (·.1.isSome) = true := by rfl) (hks : (backToKw pos (keywordEach kws X.env)).filterMap (·.1) = ks := by rfl)
    (hst : starEach (e :: es) X.env = (false, eval e X.env) :: starEach es X.env := by rfl)
    (hpl : ((backTo pos (starEach (e :: es) X.env)).any (·.1) || (backToKw pos (keywordEach kws X.env)).any (·.1.isNone)) = false := by rfl)
    (ht : eval (.Call (.Attribute o m apos) (e :: es) kws pos) X.env = (do
      let ov ← eval o X.env
      standAt apos.atName
      let (f, first) ← holding [ov] (getMethod ov m pl)
      callWith pos f first (backTo pos (starEach (e :: es) X.env)) (backToKw pos (keywordEach kws X.env))) := by rfl) :
    PE X (.Call (.Attribute o m apos) (e :: es) kws pos) (tMethK C m sp gV E ta t tk) := by
  refine ⟨fun pins s σ H Q I h => ?_⟩
  refine PySem.W.methodCall_KW (pl := pl) (thn (he.run pins s σ H _ I h) fun u s1 ⟨x, H1, I1, rx, a, dx, fs, ex, ea, l, q⟩ => ?_) ht
  subst ex
  obtain rfl : u = Value.ref a := rx
  refine getmeth_ok I1 ea c hm l ?_
  refine PySem.W.callWith_KW (first := [.ref a]) (h₀ := X.base) I.ok.mod.kin hm.kp hall (thn (ha.run pos pins s1 σ H1 _ I1 q) fun us s2 ⟨vs, H2, I2, r, q2⟩ => ?_) hpl hst
  refine thn (hkw.run pos pins s2 σ H2 _ I2 q2) fun ws s3 ⟨zs, H3, I3, rz, q3⟩ => ⟨I3.kIn, ?_⟩
  rw [hks]
  exact run_fnk (us := .ref a :: us) (vs := .ref a :: vs) F hr hb hx I3 (.cons rfl r) rz q3
/-- len(o) by an own __len__ -/
theorem call_lenO (hm : Meth X.K C "__len__" f) (F : FnOk X.prog X.w X.K X.mg X.base CX k f fd ps sp) (hr : Room (k + 1) X.A) (hb : Binds X.K fd ps []) (hx : Passes CX X E) :
    CallR X (.builtin "len") (fun xs H Q => ∃ a dx fs, xs = [V.ref a] ∧ H a = some (.ins C dx fs) ∧ sp [.ref a] H (fun v H2 => ∃ n : Int, v = .int n ∧ 0 ≤ n ∧ n < 2 ^ 63 ∧ Q (.int n) H2) E) := by
  intro pins s σ H xs us Q I r h
  obtain ⟨a, dx, fs, rfl, ea, q⟩ := h
  obtain ⟨u, rfl, ru⟩ := vals1 r
  cases ru
  obtain ⟨m', hF⟩ := I.fr
  obtain ⟨mA, O, _, _, _, _⟩ := ins_get I.hok ea
  obtain ⟨od, J, _⟩ := O.look
  have hl : ([Value.ref a] ++ ([] : List Value)).length = ps.length := by
    have := F.len _ _ _ _ q
    simpa using this
  refine PySem.W.len_K hF I.ok.mod.kin J hm.at_ hm.fn (wpAny_call (codeAny_mono (F.run X.A.in1 X.stack s H ⟨[.ref a], []⟩ [.ref a] [.ref a] _ E hr.in1 I.env0.in1 (hb s [.ref a] I.kIn hl) (.cons rfl .nil) q) fun r s' hq => ?_))
  cases r with
  | error e => exact hx pins σ H s e s' I hq
  | ok fl =>
    cases fl with
    | ret u =>
      obtain ⟨v, H', I', rv, n, rfl, h0, h1, q'⟩ := I.after hq
      obtain ⟨t, rfl⟩ := rv
      exact ⟨⟨h0, h1⟩, .int n, H', I'.tok _, ⟨_, rfl⟩, q'⟩
    | next => exact False.elim hq
    | brk => exact False.elim hq
    | cont => exact False.elim hq
end
section
variable {X : Cx}
/-- the keys that were gathered are these ints -/
theorem gathered {P : Program} {w : World} {vs : List (Key × Value)} {acc : Array Value} {ks : List Int} (hk : vs.map (·.1) = ks.map Sum.inl) (hn : acc.size = vs.length)
    (ha : ∀ (j : Nat) (v : Value), acc[j]? = some v → ∃ k x, vs[j]? = some (k, x) ∧ (mixKind P w).is k v = true) : IntsAre acc.toList ks := by
  have hlk : vs.length = ks.length := by simpa using congrArg List.length hk
  refine ints_each (by rw [Array.length_toList, hn, hlk]) fun j v ev => ?_
  obtain ⟨k, x, hv, hi⟩ := ha j v (by rw [← Array.getElem?_toList]; exact ev)
  have hj : (ks.map (Sum.inl : Int → Key))[j]? = some k := by rw [← hk, List.getElem?_map, hv]; rfl
  rw [List.getElem?_map] at hj
  cases hz : ks[j]? with
  | none => rw [hz] at hj; cases hj
  | some n =>
    rw [hz] at hj
    cases hj
    rcases keyIs_shape (show keyIs (Sum.inl n) v = true from hi) with ⟨i, t, hl, hr⟩ | ⟨z, t, hl, _⟩
    · cases hl
      exact ⟨n, t, rfl, hr⟩
    · cases hl
/-- sorted(d) of a dict whose keys are ints, any number -/
def rSortD : List V → Hp → VK → Prop := fun xs H Q => ∃ (d : Addr) (kvs : List (Key × V)) (ks : List Int), xs = [.ref d] ∧ Rd H d (.dK kvs) ∧ kvs.map (·.1) = ks.map Sum.inl ∧
  ∀ (ys : List Int) (l : Addr), ys.Perm ks → ys.Pairwise (· ≤ ·) → H l = none → Q (.ref l) (upd H l (.lst (ys.map V.int)))
theorem call_sortedDX (hcalm : X.calm = true) : CallR X (.builtin "sorted") rSortD := by
  intro pins s σ H xs us Q I r h
  obtain ⟨d, kvs, ks, rfl, hd, hks, q⟩ := h
  obtain ⟨u, rfl, ru⟩ := vals1 r
  cases ru
  obtain ⟨hsz, hmod, vs, hkv, hD⟩ := dk_rd I.hok hd
  obtain ⟨ep, hat⟩ := hD.dictAt
  have hvk : vs.map (·.1) = ks.map Sum.inl := hkv.keys.symm.trans hks
  have hvl : vs.length = kvs.length := by
    have e1 : vs.length = ks.length := by simpa using congrArg List.length hvk
    have e2 : kvs.length = ks.length := by simpa using congrArg List.length hks
    omega
  have hvs : vs.length ≤ sizeLine := hvl ▸ hsz
  refine Calls.call_function_entry kind_sorted plain_sorted entry_sorted (args_sorted1 _) ?_
  unfold Builtin.«sorted»
  refine wpAny_bind (m := checkCount "sorted" 1 1 _) (wpAny_pure (wpAny_bind ?_))
  refine PySem.W.kdu_collect (A := X.A.in1) (PySem.W.kdl_dict (knd := mixKind X.prog X.w) (kvs := vs) (ep := ep) hmod) (I.ok.hd hcalm) hat hvs fun hp tk acc hold hacc => ?_
  have J : Inv X pins σ H { s with heap := hp, toks := tk } := I.kept hold
  have hint : IntsAre acc.toList ks := gathered hvk hacc.1 hacc.2
  have hal : acc.toList.length ≤ sizeLine := by rw [Array.length_toList, hacc.1]; exact hvs
  refine wpAny_bind (wpAny_newList ?_ hal)
  have hnew : (hp.push (seqObj "list" acc.toList.toArray 0)).get? hp.objs.size = some (seqObj "list" acc.toList.toArray 0) := Heap.get?_push_size _ rfl
  show wpAny _ _ _ _ _ (Shared.mk (hp.push (seqObj "list" acc.toList.toArray 0)) s.gens s.drawn tk s.os)
  refine wpAny_bind (wpAny_holding (wpAny_call_entry slot_list_sort ⟨_, hnew, rfl⟩ entry_list_sort ?_ (args_list_sort _)))
  refine SrtO.list_sort_ord (s := Shared.mk (hp.push (seqObj "list" acc.toList.toArray 0)) s.gens s.drawn tk s.os) SrtO.swo_int hnew hal (fun h2 => SrtO.ints_sortable hint h2) fun out h1 h2 => ⟨_, rfl, ?_⟩
  obtain ⟨k1, k2, k3⟩ := SrtO.ints_out hint h1 h2
  obtain ⟨e', he'⟩ := sortedHeap_at (vs := acc.toList) (out := out.toArray) hnew
  have hol : ((out.map SrtO.iv).map V.int).length ≤ sizeLine := by
    have : ks.length = vs.length := by simpa using (congrArg List.length hvk).symm
    rw [List.length_map, k2.length_eq, this]
    exact hvs
  refine wpAny_pure ⟨_, rfl, .ref hp.objs.size, upd H hp.objs.size (.lst ((out.map SrtO.iv).map V.int)), ?_, rfl, q _ _ k2 k3 (J.hok.fresh (Nat.le_refl _))⟩
  refine J.laid (t' := tk) (fun b u e => ?_) (Nat.le_refl _) (show ObjOk X.prog X.w _ _ _ (.lst ((out.map SrtO.iv).map V.int)) from ⟨hol, out, e', vals_of_ints k1, he'⟩)
  have hb : b < hp.objs.size := Heap.lt_size e
  rw [sortedHeap_old (Nat.ne_of_lt hb) (by rw [size_push']; exact Nat.lt_succ_of_lt hb)]
  exact Heap.get?_push_of_some _ e
end
section
variable {X : Cx}
/-- a statement, then the rest, with a word between them -/
@[irreducible] def tMid (t u : TS) : TS := fun D σ H => ∃ Mid : St → Hp → Prop, t { D with nx := Mid } σ H ∧ ∀ σ' H', Mid σ' H' → u D σ' H'
theorem pss_mid {st : Stmt} {rest : List Stmt} {t u : TS} (h1 : PS X st t) (h2 : PSs X rest u) : PSs X (st :: rest) (tMid t u) := by
  refine ⟨fun pins s σ H D I h => ?_⟩
  unfold tMid at h
  obtain ⟨Mid, hm, hu⟩ := h
  refine wpAny_execs_cons (thn (h1.run pins s σ H { D with nx := Mid } I hm) fun f s1 q => ?_)
  cases f with
  | next =>
    obtain ⟨σ', H', I', q⟩ := q
    exact h2.run pins s1 σ' H' D I' (hu σ' H' q)
  | ret v => exact q
  | brk => exact q
  | cont => exact q
end
/-- what the walk doesn't look into -/
@[irreducible] def Wait (p : Prop) : Prop := p
theorem wait {p : Prop} (h : p) : Wait p := by
  unfold Wait
  exact h
theorem Wait.out {p : Prop} (h : Wait p) : p := by
  unfold Wait at h
  exact h
theorem mid_of {t u : TS} {D : Ends} {σ : St} {H : Hp} (Mid : St → Hp → Prop) (h1 : t { D with nx := fun σ H => Wait (Mid σ H) } σ H) (h2 : ∀ σ' H', Mid σ' H' → u D σ' H') : tMid t u D σ H := by
  unfold tMid
  exact ⟨fun σ H => Wait (Mid σ H), h1, fun σ' H' h => h2 σ' H' h.out⟩
/-- a loop: the walk stops ahead of it -/
@[irreducible] def tStop (t : TS) : TS := t
theorem ps_stop {X : Cx} {st : Stmt} {t : TS} (h : PS X st t) : PS X st (tStop t) := by
  unfold tStop
  exact h
theorem stop_in {t : TS} {D : Ends} {σ : St} {H : Hp} (h : t D σ H) : tStop t D σ H := by
  unfold tStop
  exact h
theorem sq_seq {t u : TS} {D : Ends} {σ : St} {H : Hp} (h : t { D with nx := u D } σ H) : tSeq t u D σ H := h
theorem ifT {c : Bool} {A B : Prop} (hc : c = true) (h : A) : if c = true then A else B := by rw [if_pos hc]; exact h
theorem ifF {c : Bool} {A B : Prop} (hc : c = false) (h : B) : if c = true then A else B := by rw [hc, if_neg Bool.false_ne_true]; exact h
theorem ifD {p : Prop} [Decidable p] {A B : Prop} (h1 : p → A) (h2 : ¬ p → B) : if decide p = true then A else B := by
  by_cases h : p
  · rw [if_pos (decide_eq_true h)]; exact h1 h
  · rw [if_neg (by rw [decide_eq_false h]; exact Bool.false_ne_true)]; exact h2 h
theorem ifN {p : Prop} [Decidable p] {A B : Prop} (h1 : ¬ p → A) (h2 : p → B) : if (!decide p) = true then A else B := by
  by_cases h : p
  · rw [decide_eq_true h, if_neg (by decide)]; exact h2 h
  · rw [decide_eq_false h, if_pos (by decide)]; exact h1 h
theorem ifB {c : Bool} {A B : Prop} (h1 : c = true → A) (h2 : c = false → B) : if c = true then A else B := by
  cases c with
  | true => rw [if_pos rfl]; exact h1 rfl
  | false => rw [if_neg Bool.false_ne_true]; exact h2 rfl
theorem upd_get {H : Hp} {a b : Addr} {o : HO} {u : Option HO} (h : b ≠ a) (e : H b = u) : upd H a o b = u := (upd_ne h).trans e
theorem fmod_pos {i j : Int} (h : 0 < j) : 0 ≤ i.fmod j ∧ i.fmod j < j := ⟨Int.fmod_nonneg_of_pos _ h, Int.fmod_lt_of_pos _ h⟩
theorem atI_in {α : Type} {xs : List α} {i : Int} (h0 : 0 ≤ i) (h1 : i < (xs.length : Int)) : ∃ v, atI xs i = some v ∧ xs[i.toNat]? = some v := by
  obtain ⟨j, rfl⟩ : ∃ j : Nat, i = (j : Int) := ⟨i.toNat, by omega⟩
  have hj : j < xs.length := by omega
  have e : xs[j]? = some xs[j] := List.getElem?_eq_getElem hj
  exact ⟨_, atI_nat e, by rw [Int.toNat_natCast]; exact e⟩
theorem atI_ints {ns : List Int} {i : Int} (h0 : 0 ≤ i) (h1 : i < (ns.length : Int)) : ∃ z, atI (ns.map V.int) i = some (.int z) ∧ ns[i.toNat]? = some z := by
  obtain ⟨v, e1, e2⟩ := atI_in (xs := ns.map V.int) h0 (by rw [List.length_map]; exact h1)
  rw [List.getElem?_map] at e2
  cases e : ns[i.toNat]? with
  | none => rw [e] at e2; cases e2
  | some z =>
    rw [e] at e2
    cases e2
    exact ⟨z, e1, rfl⟩
/-- a while by a word that bears its own measure -/
theorem while_W {c : TT} {tb : TS} {D : Ends} {σ : St} {H : Hp} (W : Nat → St → Hp → Prop) (m : Nat) (h0 : W m σ H)
    (hs : ∀ m σ H, W m σ H → c σ H fun b H1 => if b = true then ∃ N : St → Hp → Prop, (∀ σ' H', N σ' H' → ∃ m', m' < m ∧ W m' σ' H') ∧ tb { D with nx := N, ct := N, bk := D.nx } σ H1 else D.nx σ H1) : tStop (tWhile c tb) D σ H :=
  stop_in ⟨W, ⟨m, h0⟩, hs⟩
theorem next_W {tb : TS} {D : Ends} {σ : St} {H : Hp} {W : Nat → St → Hp → Prop} {m : Nat}
    (h : tb { D with nx := fun σ' H' => Wait (∃ m', m' < m ∧ W m' σ' H'), ct := fun σ' H' => Wait (∃ m', m' < m ∧ W m' σ' H'), bk := D.nx } σ H) :
    ∃ N : St → Hp → Prop, (∀ σ' H', N σ' H' → ∃ m', m' < m ∧ W m' σ' H') ∧ tb { D with nx := N, ct := N, bk := D.nx } σ H := ⟨_, fun _ _ h => h.out, h⟩
theorem forL {K : PySem.W.Frag} {a : Addr} {xs : List V} {g : TG} {tb : TS} {D : Ends} {σ : St} {H : Hp} (Pv : Nat → St → Hp → Prop) (h0 : Pv 0 σ H) (hl : ∀ i σ H, i ≤ xs.length → Pv i σ H → SqL K H a xs)
    (hs : ∀ i x σ H, xs[i]? = some x → Pv i σ H → g x σ H fun σ2 H2 => tb { D with nx := fun σ H => Wait (Pv (i + 1) σ H), ct := fun σ H => Wait (Pv (i + 1) σ H), bk := D.nx } σ2 H2) (hd : ∀ σ H, Pv xs.length σ H → D.nx σ H) :
    ∃ W : Nat → Nat → St → Hp → Prop, (∃ m, W 0 m σ H) ∧ ∀ i m σ H, W i m σ H →
      ((Itl K a).stop i H ∧ D.nx σ H) ∨ ((Itl K a).go i H ∧ ∃ N : St → Hp → Prop, (∀ σ' H', N σ' H' → ∃ m', m' < m ∧ W (i + 1) m' σ' H') ∧ ∀ x H', (Itl K a).yld i H x H' → g x σ H' fun σ2 H2 => tb { D with nx := N, ct := N, bk := D.nx } σ2 H2) :=
  for_list (fun i σ H => Wait (Pv i σ H)) (wait h0) (fun i σ H hi p => hl i σ H hi p.out) (fun i x σ H hx p => hs i x σ H hx p.out) fun σ H p => hd σ H p.out
theorem forT {K : PySem.W.Frag} {a : Addr} {xs : List V} {g : TG} {tb : TS} {D : Ends} {σ : St} {H : Hp} (Pv : Nat → St → Hp → Prop) (h0 : Pv 0 σ H) (hl : ∀ i σ H, i ≤ xs.length → Pv i σ H → SqT K H a xs)
    (hs : ∀ i x σ H, xs[i]? = some x → Pv i σ H → g x σ H fun σ2 H2 => tb { D with nx := fun σ H => Wait (Pv (i + 1) σ H), ct := fun σ H => Wait (Pv (i + 1) σ H), bk := D.nx } σ2 H2) (hd : ∀ σ H, Pv xs.length σ H → D.nx σ H) :
    ∃ W : Nat → Nat → St → Hp → Prop, (∃ m, W 0 m σ H) ∧ ∀ i m σ H, W i m σ H →
      ((Itt K a).stop i H ∧ D.nx σ H) ∨ ((Itt K a).go i H ∧ ∃ N : St → Hp → Prop, (∀ σ' H', N σ' H' → ∃ m', m' < m ∧ W (i + 1) m' σ' H') ∧ ∀ x H', (Itt K a).yld i H x H' → g x σ H' fun σ2 H2 => tb { D with nx := N, ct := N, bk := D.nx } σ2 H2) :=
  for_tup (fun i σ H => Wait (Pv i σ H)) (wait h0) (fun i σ H hi p => hl i σ H hi p.out) (fun i x σ H hx p => hs i x σ H hx p.out) fun σ H p => hd σ H p.out
theorem forR {lo : Int} {n : Nat} {g : TG} {tb : TS} {D : Ends} {σ : St} {H : Hp} (Pv : Nat → St → Hp → Prop) (h0 : Pv 0 σ H)
    (hs : ∀ i σ H, i < n → Pv i σ H → g (.int (lo + i)) σ H fun σ2 H2 => tb { D with nx := fun σ H => Wait (Pv (i + 1) σ H), ct := fun σ H => Wait (Pv (i + 1) σ H), bk := D.nx } σ2 H2) (hd : ∀ σ H, Pv n σ H → D.nx σ H) :
    ∃ W : Nat → Nat → St → Hp → Prop, (∃ m, W 0 m σ H) ∧ ∀ i m σ H, W i m σ H →
      ((Itr lo n).stop i H ∧ D.nx σ H) ∨ ((Itr lo n).go i H ∧ ∃ N : St → Hp → Prop, (∀ σ' H', N σ' H' → ∃ m', m' < m ∧ W (i + 1) m' σ' H') ∧ ∀ x H', (Itr lo n).yld i H x H' → g x σ H' fun σ2 H2 => tb { D with nx := N, ct := N, bk := D.nx } σ2 H2) :=
  for_range (fun i σ H => Wait (Pv i σ H)) (wait h0) (fun i σ H hi p => hs i σ H hi p.out) fun σ H p => hd σ H p.out
theorem lcL {K : PySem.W.Frag} {a : Addr} {xs : List V} {g : TG} {tt : TT} {te : TE} {vs : List Nat} {σ : St} {H1 : Hp} {D : Addr} {Qd : Hp → Prop} (Pv : Nat → Hp → Prop) (h0 : Pv 0 (upd H1 D (.lst []))) (hl : ∀ i H, i ≤ xs.length → Pv i H → SqL K H a xs)
    (hs : ∀ i x H, xs[i]? = some x → Pv i H → g x (wipe σ vs) H fun σ2 H2 => wipe σ2 vs = wipe σ vs ∧ tt σ2 H2 fun b H3 =>
      if b = true then te σ2 H3 fun y H4 => ∃ acc, H4 D = some (.lst acc) ∧ acc.length < sizeLine ∧ Wait (Pv (i + 1) (upd H4 D (.lst (acc ++ [y])))) else Wait (Pv (i + 1) H3)) (hd : ∀ H, Pv xs.length H → Qd H) :
    ∃ W : Nat → Nat → Hp → Prop, (∃ m, W 0 m (upd H1 D (.lst []))) ∧ ∀ i m H, W i m H →
      ((Itl K a).stop i H ∧ Qd H) ∨ ((Itl K a).go i H ∧ ∃ Nx : Hp → Prop, (∀ H', Nx H' → ∃ m', m' < m ∧ W (i + 1) m' H') ∧ ∀ x H', (Itl K a).yld i H x H' → g x (wipe σ vs) H' fun σ2 H2 => wipe σ2 vs = wipe σ vs ∧ tt σ2 H2 fun b H3 =>
        if b = true then te σ2 H3 fun y H4 => ∃ acc, H4 D = some (.lst acc) ∧ acc.length < sizeLine ∧ Nx (upd H4 D (.lst (acc ++ [y]))) else Nx H3) :=
  lc_list (fun i H => Wait (Pv i H)) (wait h0) (fun i H hi p => hl i H hi p.out) (fun i x H hx p => hs i x H hx p.out) fun H p => hd H p.out
theorem lcT {K : PySem.W.Frag} {a : Addr} {xs : List V} {g : TG} {tt : TT} {te : TE} {vs : List Nat} {σ : St} {H1 : Hp} {D : Addr} {Qd : Hp → Prop} (Pv : Nat → Hp → Prop) (h0 : Pv 0 (upd H1 D (.lst []))) (hl : ∀ i H, i ≤ xs.length → Pv i H → SqT K H a xs)
    (hs : ∀ i x H, xs[i]? = some x → Pv i H → g x (wipe σ vs) H fun σ2 H2 => wipe σ2 vs = wipe σ vs ∧ tt σ2 H2 fun b H3 =>
      if b = true then te σ2 H3 fun y H4 => ∃ acc, H4 D = some (.lst acc) ∧ acc.length < sizeLine ∧ Wait (Pv (i + 1) (upd H4 D (.lst (acc ++ [y])))) else Wait (Pv (i + 1) H3)) (hd : ∀ H, Pv xs.length H → Qd H) :
    ∃ W : Nat → Nat → Hp → Prop, (∃ m, W 0 m (upd H1 D (.lst []))) ∧ ∀ i m H, W i m H →
      ((Itt K a).stop i H ∧ Qd H) ∨ ((Itt K a).go i H ∧ ∃ Nx : Hp → Prop, (∀ H', Nx H' → ∃ m', m' < m ∧ W (i + 1) m' H') ∧ ∀ x H', (Itt K a).yld i H x H' → g x (wipe σ vs) H' fun σ2 H2 => wipe σ2 vs = wipe σ vs ∧ tt σ2 H2 fun b H3 =>
        if b = true then te σ2 H3 fun y H4 => ∃ acc, H4 D = some (.lst acc) ∧ acc.length < sizeLine ∧ Nx (upd H4 D (.lst (acc ++ [y]))) else Nx H3) :=
  lc_tup (fun i H => Wait (Pv i H)) (wait h0) (fun i H hi p => hl i H hi p.out) (fun i x H hx p => hs i x H hx p.out) fun H p => hd H p.out
theorem lcR {lo : Int} {n : Nat} {g : TG} {tt : TT} {te : TE} {vs : List Nat} {σ : St} {H1 : Hp} {D : Addr} {Qd : Hp → Prop} (Pv : Nat → Hp → Prop) (h0 : Pv 0 (upd H1 D (.lst [])))
    (hs : ∀ i H, i < n → Pv i H → g (.int (lo + i)) (wipe σ vs) H fun σ2 H2 => wipe σ2 vs = wipe σ vs ∧ tt σ2 H2 fun b H3 =>
      if b = true then te σ2 H3 fun y H4 => ∃ acc, H4 D = some (.lst acc) ∧ acc.length < sizeLine ∧ Wait (Pv (i + 1) (upd H4 D (.lst (acc ++ [y])))) else Wait (Pv (i + 1) H3)) (hd : ∀ H, Pv n H → Qd H) :
    ∃ W : Nat → Nat → Hp → Prop, (∃ m, W 0 m (upd H1 D (.lst []))) ∧ ∀ i m H, W i m H →
      ((Itr lo n).stop i H ∧ Qd H) ∨ ((Itr lo n).go i H ∧ ∃ Nx : Hp → Prop, (∀ H', Nx H' → ∃ m', m' < m ∧ W (i + 1) m' H') ∧ ∀ x H', (Itr lo n).yld i H x H' → g x (wipe σ vs) H' fun σ2 H2 => wipe σ2 vs = wipe σ vs ∧ tt σ2 H2 fun b H3 =>
        if b = true then te σ2 H3 fun y H4 => ∃ acc, H4 D = some (.lst acc) ∧ acc.length < sizeLine ∧ Nx (upd H4 D (.lst (acc ++ [y]))) else Nx H3) :=
  lc_range (fun i H => Wait (Pv i H)) (wait h0) (fun i H hi p => hs i H hi p.out) fun H p => hd H p.out
theorem ints_at {ns : List Int} {i : Nat} {y : V} (h : (ns.map V.int)[i]? = some y) : ∃ u, y = V.int u ∧ ns[i]? = some u ∧ i < ns.length := by
  rw [List.getElem?_map] at h
  cases e : ns[i]? with
  | none => rw [e] at h; cases h
  | some u =>
    rw [e] at h
    exact ⟨u, (Option.some.inj h).symm, rfl, (List.getElem?_eq_some_iff.mp e).1⟩
theorem filt_len {α : Type} (p : α → Bool) (xs : List α) (i : Nat) : ((xs.take i).filter p).length ≤ xs.length := Nat.le_trans (List.length_filter_le _ _) (by rw [List.length_take]; omega)
theorem take_filt_yes {α : Type} {p : α → Bool} {xs : List α} {i : Nat} {x : α} (h : xs[i]? = some x) (hp : p x = true) : (xs.take (i + 1)).filter p = (xs.take i).filter p ++ [x] := by
  rw [List.take_add_one, h, Option.toList_some, List.filter_append, List.filter_cons, if_pos hp] <;> rfl
theorem take_filt_no {α : Type} {p : α → Bool} {xs : List α} {i : Nat} {x : α} (h : xs[i]? = some x) (hp : p x = false) : (xs.take (i + 1)).filter p = (xs.take i).filter p := by
  rw [List.take_add_one, h, Option.toList_some, List.filter_append, List.filter_cons, if_neg (by rw [hp]; decide), List.filter_nil, List.append_nil]
theorem small_lt {n : Nat} (h : n ≤ 100000) : n < sizeLine := Nat.lt_of_le_of_lt h (by decide)
theorem small_le {n : Nat} (h : n ≤ 100000) : n ≤ sizeLine := Nat.le_of_lt (small_lt h)
theorem isi_b {K : PySem.W.Frag} {H : Hp} {Q : VK} {x : V} {t c : String} {b : Bool} (ty : TyX K H x (.type t)) (h : kitB t c = some b) (q : Q (.bl b) H) : rIsi K [x, .ty c] H Q :=
  ⟨x, .ty c, .type t, .type c, b, rfl, .ty c, ty, kit_ty h, q⟩
theorem Same.seqT {K : PySem.W.Frag} {H H' : Hp} {a : Addr} {xs : List V} (e : Same H H') (h : SqT K H a xs) : SqT K H' a xs := by
  rcases h with (h | ⟨o, h⟩) | h
  · exact .inl (.inl (e _ _ h))
  · exact .inl (.inr ⟨o, e _ _ h⟩)
  · exact .inr h
theorem Same.upd_new {H : Hp} {p : Addr} {o : HO} (h : H p = none) : Same H (upd H p o) := fun b u e => by rw [upd_ne (ne_of_none e h)]; exact e
mutual
theorem Dp.same {K : PySem.W.Frag} {H H' : Hp} (e : Same H H') : ∀ {v : V} {d : PyData}, Dp K H v d → Dp K H' v d
  | _, _, .non => .non
  | _, _, .bl b => .bl b
  | _, _, .int i => .int i
  | _, _, .str x => .str x
  | _, _, .lst h r => .lst (e.seq h) (DpAll.same e r)
  | _, _, .tup h r => .tup (e.seqT h) (DpAll.same e r)
theorem DpAll.same {K : PySem.W.Frag} {H H' : Hp} (e : Same H H') : ∀ {vs : List V} {ds : List PyData}, DpAll K H vs ds → DpAll K H' vs ds
  | _, _, .nil => .nil
  | _, _, .cons h r => .cons (Dp.same e h) (DpAll.same e r)
end
theorem DpAll.snoc {K : PySem.W.Frag} {H : Hp} : ∀ {vs : List V} {ds : List PyData} {v : V} {d : PyData}, DpAll K H vs ds → Dp K H v d → DpAll K H (vs ++ [v]) (ds ++ [d])
  | _, _, _, _, .nil, h => .cons h .nil
  | _, _, _, _, .cons a r, h => .cons a (DpAll.snoc r h)
theorem DpAll.len {K : PySem.W.Frag} {H : Hp} : ∀ {vs : List V} {ds : List PyData}, DpAll K H vs ds → vs.length = ds.length
  | _, _, .nil => rfl
  | _, _, .cons _ r => by rw [List.length_cons, List.length_cons, DpAll.len r]
/-- two whole numbers -/
def pairD (p : Int × Int) : PyData := .tuple [.int p.1, .int p.2]
theorem pairD_of {K : PySem.W.Frag} {H : Hp} {t : Addr} {p : Int × Int} (h : H t = some (.tup [.int p.1, .int p.2])) : Dp K H (.ref t) (pairD p) := .tup (SqT.of h) (.cons (.int _) (.cons (.int _) .nil))
theorem lay_pairs : ∀ l : List (Int × Int), PyData.canLayAll0 (l.map pairD) = true
  | [] => rfl
  | p :: r => by
    show (PyData.canLay0 (pairD p) && PyData.canLayAll0 (r.map pairD)) = true
    rw [lay_pairs r] <;> rfl
theorem depth_pairs : ∀ l : List (Int × Int), PyData.depthAll (l.map pairD) ≤ 1
  | [] => Nat.zero_le _
  | p :: r => by
    show max (PyData.depth (pairD p)) (PyData.depthAll (r.map pairD)) ≤ 1
    have := depth_pairs r
    have e : PyData.depth (pairD p) = 1 := rfl
    omega
theorem shaped_pairs (l : List (Int × Int)) : SeqAt.shaped (.list (l.map pairD)) = true := by
  unfold SeqAt.shaped
  rw [Bool.and_eq_true]
  refine ⟨lay_pairs l, decide_eq_true ?_⟩
  show PyData.depthAll (l.map pairD) + 1 ≤ 64
  have := depth_pairs l
  omega
theorem shaped_pair (p : Int × Int) : SeqAt.shaped (pairD p) = true := rfl
theorem eqv_self {d : PyData} (h : SeqAt.shaped d = true) : PyData.eqv d d = true := SeqAt.eqv_refl d (SeqAt.canLay_of_shaped h)
theorem ifYes {p : Prop} [Decidable p] {A B : Prop} (h : p) (hA : A) : if decide p = true then A else B := ifT (decide_eq_true h) hA
theorem ifNo {p : Prop} [Decidable p] {A B : Prop} (h : ¬ p) (hB : B) : if decide p = true then A else B := ifF (decide_eq_false h) hB
theorem ifNY {p : Prop} [Decidable p] {A B : Prop} (h : ¬ p) (hA : A) : if (!decide p) = true then A else B := ifT (by rw [decide_eq_false h]; rfl) hA
theorem ifNN {p : Prop} [Decidable p] {A B : Prop} (h : p) (hB : B) : if (!decide p) = true then A else B := ifF (by rw [decide_eq_true h]; rfl) hB
/-- for k in d, d locked -/
theorem forK {d : Addr} {o : Obj} {kvs : List (Key × V)} {g : TG} {tb : TS} {D : Ends} {σ : St} {H : Hp} (Pv : Nat → St → Hp → Prop) (h0 : Pv 0 σ H) (hl : ∀ i σ H, i ≤ kvs.length → Pv i σ H → H d = some (.frz o (.dK kvs)))
    (hs : ∀ (i : Nat) (k : Key) (v : V) (σ : St) (H : Hp), kvs[i]? = some (k, v) → Pv i σ H → g (kV k) σ H fun σ2 H2 => tb { D with nx := fun σ H => Wait (Pv (i + 1) σ H), ct := fun σ H => Wait (Pv (i + 1) σ H), bk := D.nx } σ2 H2) (hd : ∀ σ H, Pv kvs.length σ H → D.nx σ H) :
    ∃ W : Nat → Nat → St → Hp → Prop, (∃ m, W 0 m σ H) ∧ ∀ i m σ H, W i m σ H →
      ((Itk d o kvs).stop i H ∧ D.nx σ H) ∨ ((Itk d o kvs).go i H ∧ ∃ N : St → Hp → Prop, (∀ σ' H', N σ' H' → ∃ m', m' < m ∧ W (i + 1) m' σ' H') ∧ ∀ x H', (Itk d o kvs).yld i H x H' → g x σ H' fun σ2 H2 => tb { D with nx := N, ct := N, bk := D.nx } σ2 H2) := by
  refine ⟨fun i m σ H => m = kvs.length - i ∧ i ≤ kvs.length ∧ Wait (Pv i σ H), ⟨kvs.length, by simp, Nat.zero_le _, wait h0⟩, ?_⟩
  rintro i m σ H ⟨rfl, hi, p⟩
  have q := hl i σ H hi p.out
  by_cases hlt : i < kvs.length
  · refine .inr ⟨⟨q, hlt⟩, fun σ H => Wait (Pv (i + 1) σ H), fun σ' H' p' => ⟨kvs.length - (i + 1), by omega, rfl, hlt, p'⟩, fun x H' y => ?_⟩
    obtain ⟨rfl, k, v, e, rfl⟩ := y
    exact hs i k v σ _ e p.out
  · have e : i = kvs.length := by omega
    subst e
    exact .inl ⟨⟨q, Nat.le_refl _⟩, hd σ H p.out⟩
/-- tuples of two whole numbers at these addresses -/
def Tups (H : Hp) (ts : List Addr) (ps : List (Int × Int)) : Prop := Paired (fun (t : Addr) (p : Int × Int) => H t = some (.tup [.int p.1, .int p.2])) ts ps
theorem Tups.keep {H H' : Hp} {ts : List Addr} {ps : List (Int × Int)} (h : Tups H ts ps) (k : ∀ t xs, H t = some (.tup xs) → H' t = some (.tup xs)) : Tups H' ts ps := Paired.mapP h fun _ _ e => k _ _ e
theorem Tups.dp {K : PySem.W.Frag} {H : Hp} {ts : List Addr} {ps : List (Int × Int)} (h : Tups H ts ps) : DpAll K H (ts.map V.ref) (ps.map pairD) := by
  unfold Tups at h
  induction h with
  | nil => exact .nil
  | cons e _ ih => exact .cons (pairD_of e) ih
theorem Tups.snoc {H : Hp} {ts : List Addr} {ps : List (Int × Int)} {t : Addr} {p : Int × Int} (h : Tups H ts ps) (e : H t = some (.tup [.int p.1, .int p.2])) : Tups H (ts ++ [t]) (ps ++ [p]) := Paired.snoc h e
theorem Tups.len {H : Hp} {ts : List Addr} {ps : List (Int × Int)} (h : Tups H ts ps) : ts.length = ps.length := Paired.length h
theorem keepT_upd {H : Hp} {D : Addr} {o : HO} {xs : List V} (h : H D = some (.lst xs)) : ∀ t ys, H t = some (.tup ys) → upd H D o t = some (.tup ys) := fun t ys e => by
  rw [upd_ne (ne_of e h (by intro z; cases z))]
  exact e
theorem kV_int (i : Int) : V.int i = kV (Sum.inl i) := rfl
theorem kV_str (x : Str) : V.str x = kV (Sum.inr x) := rfl
def rLenK (K : PySem.W.Frag) : List V → Hp → VK → Prop := fun xs H Q => ∃ p ys, xs = [V.ref p] ∧ (SqL K H p ys ∨ SqT K H p ys) ∧ Q (.int ys.length) H
theorem call_lenK {X : Cx} : CallR X (.builtin "len") (rLenK X.K) := call_len_seq
theorem sorted_same {a b : List Int} (hp : a.Perm b) (ha : a.Pairwise (· ≤ ·)) (hb : b.Pairwise (· ≤ ·)) : a = b := hp.eq_of_pairwise (fun _ _ _ _ h1 h2 => Int.le_antisymm h1 h2) ha hb
/-- a test whose ways are joined -/
@[irreducible] def tMidT (t : TT) : TT := fun σ H Q => ∃ M : Bool → Hp → Prop, t σ H M ∧ ∀ b H', M b H' → Q b H'
theorem pt_mid {X : Cx} {e : Expr} {t : TT} (h : PT X e t) : PT X e (tMidT t) := by
  refine ⟨fun pins s σ H Q I q => ?_⟩
  unfold tMidT at q
  obtain ⟨M, h1, h2⟩ := q
  exact thn (h.run pins s σ H M I h1) fun b s' ⟨H', I', m⟩ => ⟨H', I', h2 b H' m⟩
theorem midT_of {t : TT} {σ : St} {H : Hp} {Q : Bool → Hp → Prop} (M : Bool → Hp → Prop) (h1 : t σ H fun b H' => Wait (M b H')) (h2 : ∀ b H', M b H' → Q b H') : tMidT t σ H Q := by
  unfold tMidT
  exact ⟨fun b H' => Wait (M b H'), h1, fun b H' m => h2 b H' m.out⟩
/-- an expression whose ways are joined -/
@[irreducible] def tMidE (t : TE) : TE := fun σ H Q => ∃ M : V → Hp → Prop, t σ H M ∧ ∀ b H', M b H' → Q b H'
theorem pe_mid {X : Cx} {e : Expr} {t : TE} (h : PE X e t) : PE X e (tMidE t) := by
  refine ⟨fun pins s σ H Q I q => ?_⟩
  unfold tMidE at q
  obtain ⟨M, h1, h2⟩ := q
  exact thn (h.run pins s σ H M I h1) fun b s' ⟨v, H', I', r, m⟩ => ⟨v, H', I', r, h2 v H' m⟩
theorem midE_of {t : TE} {σ : St} {H : Hp} {Q : VK} (M : V → Hp → Prop) (h1 : t σ H fun b H' => Wait (M b H')) (h2 : ∀ b H', M b H' → Q b H') : tMidE t σ H Q := by
  unfold tMidE
  exact ⟨fun b H' => Wait (M b H'), h1, fun b H' m => h2 b H' m.out⟩
/-- for a, b in zip(xs, ys), lists of one length -/
theorem forZ {K : PySem.W.Frag} {a b : Addr} {xs ys : List V} {g : TG} {tb : TS} {D : Ends} {σ : St} {H : Hp} (hl : xs.length = ys.length) (Pv : Nat → St → Hp → Prop) (h0 : Pv 0 σ H) (hq : ∀ i σ H, Pv i σ H → SqL K H a xs ∧ SqL K H b ys)
    (hs : ∀ (i : Nat) (x y : V) (t : Addr) (σ : St) (H : Hp), xs[i]? = some x → ys[i]? = some y → Pv i σ H → H t = none →
      g (.ref t) σ (upd H t (.tup [x, y])) fun σ2 H2 => tb { D with nx := fun σ H => Wait (Pv (i + 1) σ H), ct := fun σ H => Wait (Pv (i + 1) σ H), bk := D.nx } σ2 H2) (hd : ∀ σ H, Pv xs.length σ H → D.nx σ H) :
    ∃ W : Nat → Nat → St → Hp → Prop, (∃ m, W 0 m σ H) ∧ ∀ i m σ H, W i m σ H →
      ((Itz K a b).stop i H ∧ D.nx σ H) ∨ ((Itz K a b).go i H ∧ ∃ N : St → Hp → Prop, (∀ σ' H', N σ' H' → ∃ m', m' < m ∧ W (i + 1) m' σ' H') ∧ ∀ v H', (Itz K a b).yld i H v H' → g v σ H' fun σ2 H2 => tb { D with nx := N, ct := N, bk := D.nx } σ2 H2) := by
  refine ⟨fun i m σ H => m = xs.length - i ∧ i ≤ xs.length ∧ Wait (Pv i σ H), ⟨xs.length, by simp, Nat.zero_le _, wait h0⟩, ?_⟩
  rintro i m σ H ⟨rfl, hi, p⟩
  obtain ⟨q1, q2⟩ := hq i σ H p.out
  by_cases hlt : i < xs.length
  · have e1 : xs[i]? = some xs[i] := List.getElem?_eq_getElem hlt
    have e2 : ys[i]? = some ys[i] := List.getElem?_eq_getElem (by omega)
    refine .inr ⟨⟨xs, ys, _, _, q1, q2, e1, e2⟩, fun σ H => Wait (Pv (i + 1) σ H), fun σ' H' p' => ⟨xs.length - (i + 1), by omega, rfl, hlt, p'⟩, fun v H' y => ?_⟩
    obtain ⟨t, x, z, rfl, ht, rfl, f1, f2⟩ := y
    exact hs i x z t σ H (f1 xs q1) (f2 ys q2) p.out ht
  · have e : i = xs.length := by omega
    subst e
    exact .inl ⟨⟨xs, ys, q1, q2, .inl (Nat.le_refl _)⟩, hd σ H p.out⟩
end L2
set_option Elab.async false
set_option linter.all false
set_option maxRecDepth 100000
set_option maxHeartbeats 4000000
/-! Rules for own errors: methods that may raise within a try, several clauses with names, isinstance of an error that has fields. -/
namespace PySem.W
open PySem PySem.Spec PySem.Calls PyProof.Rows
section
variable {prog : Program} {w : World} {A : Around} {E : Value → Shared → Prop} {s : Shared} {K : Frag} {x D : Addr} {ox od : Obj}
/-- e.__class__ of an error with a dict of its own -/
theorem pf_class {Q : Option Value → Shared → Prop} (C : L2.ExcC K D) (X : K.In s.heap) (I : InstAt s.heap x ox D (some od)) (h : Q (some (.ref D)) { s with toks := s.toks + 1 }) :
    wpAny (model prog w) A (getAttr? (.ref x) "__class__") Q E s := by
  obtain ⟨cd, hcd, _⟩ := any_some C.hd
  have hfo : findObj K D (some od) "__class__" = some (.bind (.builtin "getset_descriptor.__get__") (.builtin "object.__class__")) := findObj_data (by rw [hcd]; rfl) C.ha C.hn C.ht
  obtain ⟨hp, g, dr, t, os⟩ := s
  have lt := I.type (M := model prog w)
  have lg := looks_findIn (M := model prog w) X C.hg
  have lh := looks_findIn (M := model prog w) X C.hk
  have lf := looks_find (M := model prog w) X I hfo
  have lb : Looks (model prog w) hp (isInstance (.ref x) (.type "BaseException")) true := lt.andThen (looks_subIn X C.hs)
  have b2 : (Value.builtin "BaseException.__getattribute__" == Value.builtin "object.__getattribute__") = false := by decide +kernel
  unfold getAttr? getAttrBy? getAttrBy
  refine wpAny_bind (wpAny_mkText (wpAny_bind (wpAny_attempt (wpAny_holding (wpAny_bind (lt.at (wpAny_bind (lg.at ?_))))))))
  show wpAny _ _ (if (onTheHeap (Value.ref D) && Value.builtin "BaseException.__getattribute__" == Value.builtin "object.__getattribute__") = true then _ else _) _ _ _
  rw [b2, Bool.and_false, if_neg Bool.false_ne_true]
  unfold getAttrByItsOwn hookBefore
  refine wpAny_bind ?_
  rw [if_pos (show onTheHeap (Value.ref D) = true from rfl)]
  refine lh.at (wpAny_bind (wpAny_attempt (wpAny_holding ?_)))
  unfold callGetattribute
  rw [if_neg (show ¬ (false && onTheHeap (Value.builtin "BaseException.__getattribute__")) = true from Bool.false_ne_true)]
  unfold boundAndCalled
  rw [PySem.F.excAttr_ValueError.ga.bind (.ref x)]
  refine wpAny_bind (wpAny_pure ?_)
  show wpAny _ _ (call (.builtin "BaseException.__getattribute__") [.ref x, .str "__class__" t]) _ _ _
  refine wpAny_call (codeAny_call_builtin PySem.F.excAttr_ValueError.ga.plain PySem.F.entry_bexc_ga ?_)
  refine @check_slot (model prog w) _ _ ⟨hp, g, dr, t + 1, os⟩ "BaseException.__getattribute__" "BaseException" "__getattribute__" (.ref x) [.str "__class__" t] [] _ (by decide +kernel) (by decide +kernel) lb (PySem.F.args_bexc_ga (.ref x) (.str "__class__" t)) ?_
  unfold Builtin.«object.__getattribute__»
  refine wpAny_bind (wpAny_of_eq (a := ((Value.ref x : Value), [Value.str "__class__" t])) (by first | rfl | (simp only [slotArgs]; rfl)) ?_)
  refine wpAny_bind (wpAny_pure (wpAny_bind (lt.at (wpAny_bind (lf.at ?_)))))
  show wpAny _ _ (holding [Value.builtin "object.__class__"] (call (.builtin "getset_descriptor.__get__") [.builtin "object.__class__", .ref x, .ref D]) >>= ret) _ _ _
  refine wpAny_bind (wpAny_holding (wpAny_call (class_get (s := ⟨hp, g, dr, t + 1, os⟩) (ox := ox) (od := some od) X I C.hm ?_)))
  refine wpAny_pure ?_
  show wpAny _ _ (handedOut (.ref D)) _ _ _
  rw [handedOut_of (v := .ref D) rfl]
  first
    | exact wpAny_pure (wpAny_pure h)
    | exact wpAny_pure h
    | exact wpAny_pure (wpAny_bind (wpAny_pure (wpAny_pure h)))
theorem pf_kitx (C : L2.ExcC K D) : KitX K (.ref x) (.ref D) (fun h => InstAt h x ox D (some od)) := by
  obtain ⟨cd, hcd, _⟩ := any_some C.hd
  have hob : ∃ o sl c dd, K.lookup D = some ⟨c, dd, .cls o, sl⟩ := by
    unfold clsIn at hcd
    split at hcd
    · rename_i c' d' cd' sl' ho
      exact ⟨_, _, _, _, ho⟩
    · cases hcd
  obtain ⟨cl, sl, c, dd, hl⟩ := hob
  refine ⟨fun _ _ _ I => I.type, fun _ _ X _ => ?_, fun h tp d' its n sl' X htp => ?_, fun X I k => pf_class C X I k⟩
  · intro A' Q' E' s' k q
    unfold isType loadHead
    exact wpAny_bind (wpAny_loadPart (k _ _ (X _ _ hl)) (wpAny_pure q))
  · refine Bool.eq_false_iff.mpr fun q => ?_
    have e : D = tp := Value.ref.inj (beq_iff_eq.mp q)
    subst e
    have z := (X _ _ hl).symm.trans htp
    cases z
end
end PySem.W
namespace L2
open PySem PySem.Spec PyProof.Rows
section
variable {X : Cx} {CX : CXT} {k : Nat} {f C : Addr} {fd : FuncData} {ps : List Str} {sp : Sp} {E : St → XK} {x m : Str} {p pos apos : Pos} {e o : Expr} {es : List Expr} {ta : TE} {t : TA}
/-- o.m(e, ..), what is raised is wished for at the slots -/
def tMethW (C : Addr) (m : Str) (sp : Sp) (E : St → XK) (ta : TE) (t : TA) : TE := fun σ H Q => ta σ H fun x H1 => ∃ a dx fs, x = .ref a ∧ H1 a = some (.ins C dx fs) ∧ fs.lookup m = none ∧ t σ H1 fun vs H2 => sp (x :: vs) H2 Q (E σ)
theorem pe_methW {pl : Sem Bool} (he : PE X o ta) (c : Cls X.K C) (hm : Meth X.K C m f) (F : FnOk X.prog X.w X.K X.mg X.base CX k f fd ps sp) (hr : Room k X.A) (hb : Binds X.K fd ps []) (hx : ∀ σ, PassesAt CX X σ (E σ)) (ha : PA X (e :: es) t)
    (hst : starEach (e :: es) X.env = (false, eval e X.env) :: starEach es X.env := by rfl) (hpl : (backTo pos (starEach es X.env)).any (·.1) = false := by rfl)
    (ht : eval (.Call (.Attribute o m apos) (e :: es) [] pos) X.env = (do
      let ov ← eval o X.env
      standAt apos.atName
      let (f, first) ← holding [ov] (getMethod ov m pl)
      callWith pos f first (backTo pos (starEach (e :: es) X.env)) (backToKw pos (keywordEach [] X.env))) := by rfl) :
    PE X (.Call (.Attribute o m apos) (e :: es) [] pos) (tMethW C m sp E ta t) := by
  refine ⟨fun pins s σ H Q I h => ?_⟩
  refine PySem.W.methodCall_KW (pl := pl) (thn (he.run pins s σ H _ I h) fun u s1 ⟨x, H1, I1, rx, a, dx, fs, ex, ea, l, q⟩ => ?_) ht
  subst ex
  obtain rfl : u = Value.ref a := rx
  refine getmeth_ok I1 ea c hm l ?_
  refine PySem.W.callWith_K (first := [.ref a]) (h₀ := X.base) I.ok.mod.kin hm.kp (thn (ha.run pos pins s1 σ H1 _ I1 q) fun us s2 ⟨vs, H2, I2, r, q2⟩ => ⟨I2.kIn, ?_⟩) hst hpl
  exact run_fnS (us := .ref a :: us) (vs := .ref a :: vs) F hr hb (hx σ) I2 (.cons rfl r) q2
end
/-! ### walks of any kind, with Wait -/
theorem forW {J : It} {n : Nat} {G : Hp → Prop} {Y : Nat → Hp → V → Hp → Prop} (w : Walk J n G Y) {g : TG} {tb : TS} {D : Ends} {σ : St} {H : Hp} (Pv : Nat → St → Hp → Prop) (h0 : Pv 0 σ H) (hG : ∀ i σ H, i ≤ n → Pv i σ H → G H)
    (hs : ∀ i x σ H H', i < n → Pv i σ H → Y i H x H' → g x σ H' fun σ2 H2 => tb { D with nx := fun σ H => Wait (Pv (i + 1) σ H), ct := fun σ H => Wait (Pv (i + 1) σ H), bk := D.nx } σ2 H2) (hd : ∀ σ H, Pv n σ H → D.nx σ H) :
    ∃ W : Nat → Nat → St → Hp → Prop, (∃ m, W 0 m σ H) ∧ ∀ i m σ H, W i m σ H →
      (J.stop i H ∧ D.nx σ H) ∨ (J.go i H ∧ ∃ N : St → Hp → Prop, (∀ σ' H', N σ' H' → ∃ m', m' < m ∧ W (i + 1) m' σ' H') ∧ ∀ x H', J.yld i H x H' → g x σ H' fun σ2 H2 => tb { D with nx := N, ct := N, bk := D.nx } σ2 H2) :=
  for_it w (fun i σ H => Wait (Pv i σ H)) (wait h0) (fun i σ H hi p => hG i σ H hi p.out) (fun i x σ H H' hi p y => hs i x σ H H' hi p.out y) fun σ H p => hd σ H p.out
theorem lcW {J : It} {n : Nat} {G : Hp → Prop} {Y : Nat → Hp → V → Hp → Prop} (w : Walk J n G Y) {g : TG} {tt : TT} {te : TE} {vs : List Nat} {σ : St} {H1 : Hp} {D : Addr} {Qd : Hp → Prop} (Pv : Nat → Hp → Prop) (h0 : Pv 0 (upd H1 D (.lst []))) (hG : ∀ i H, i ≤ n → Pv i H → G H)
    (hs : ∀ i x H H', i < n → Pv i H → Y i H x H' → g x (wipe σ vs) H' fun σ2 H2 => wipe σ2 vs = wipe σ vs ∧ tt σ2 H2 fun b H3 =>
      if b = true then te σ2 H3 fun y H4 => ∃ acc, H4 D = some (.lst acc) ∧ acc.length < sizeLine ∧ Wait (Pv (i + 1) (upd H4 D (.lst (acc ++ [y])))) else Wait (Pv (i + 1) H3)) (hd : ∀ H, Pv n H → Qd H) :
    ∃ W : Nat → Nat → Hp → Prop, (∃ m, W 0 m (upd H1 D (.lst []))) ∧ ∀ i m H, W i m H →
      (J.stop i H ∧ Qd H) ∨ (J.go i H ∧ ∃ Nx : Hp → Prop, (∀ H', Nx H' → ∃ m', m' < m ∧ W (i + 1) m' H') ∧ ∀ x H', J.yld i H x H' → g x (wipe σ vs) H' fun σ2 H2 => wipe σ2 vs = wipe σ vs ∧ tt σ2 H2 fun b H3 =>
        if b = true then te σ2 H3 fun y H4 => ∃ acc, H4 D = some (.lst acc) ∧ acc.length < sizeLine ∧ Nx (upd H4 D (.lst (acc ++ [y]))) else Nx H3) :=
  lc_it w (fun i H => Wait (Pv i H)) (wait h0) (fun i H hi p => hG i H hi p.out) (fun i x H H' hi p y => hs i x H H' hi p.out y) fun H p => hd H p.out
/-! ### keywords -/
def kbGn (n : Nat) (us ws : List Value) : List Value := if us.length = n then us ++ ws else []
def kbVn (n : Nat) (us ws : List V) : List V := if us.length = n then us ++ ws else []
theorem kb_ofn {K : PySem.W.Frag} {x qual : Str} {st : Stmt} {f : Addr} {fd : FuncData} {ps ks : List Str} {n m : Nat} (F : Fun K x qual st f fd) (hp : ps.length = n + m) (h0 : 0 < n + m)
    (h : ∀ (kV doc pm : Value) (an : Option Addr) (cdv ct : Value) (us ws : List Value), us.length = n → ws.length = m → bindArgs (PySem.W.fnOf x qual (defArgs st) (defBody st) (defScope st) .none kV doc pm an cdv ct) ⟨us, ks.zip ws⟩ = pure (ps.zip (us ++ ws))) : KBinds K fd ps ks (kbGn n) (kbVn n) := by
  obtain ⟨oc, od, kV, doc, pm, an, cdv, ct, osl, rfl, lk, hcd⟩ := F.ex
  constructor
  · intro s us ws _ hl
    by_cases e : us.length = n
    · have hg : kbGn n us ws = us ++ ws := if_pos e
      rw [hg] at hl ⊢
      rw [List.length_append, e, hp] at hl
      exact .of_eq (h kV doc pm an cdv ct us ws e (by omega))
    · have hg : kbGn n us ws = [] := if_neg e
      rw [hg, hp] at hl
      have : 0 = n + m := hl
      omega
  · intro vs us zs ws r1 r2
    have hl := r1.length
    by_cases e : us.length = n
    · rw [show kbGn n us ws = us ++ ws from if_pos e, show kbVn n vs zs = vs ++ zs from if_pos (hl.trans e)]
      exact r1.append r2
    · rw [show kbGn n us ws = [] from if_neg e, show kbVn n vs zs = [] from if_neg (fun z => e (hl.symm.trans z))]
      exact .nil
section
variable {X : Cx} {CX : CXT} {k : Nat} {f C : Addr} {fd : FuncData} {ps ks : List Str} {sp : Sp} {E : St → XK} {x m : Str} {p pos apos kpos : Pos} {e o : Expr} {es : List Expr} {kws : List Keyword} {te ta : TE} {t tk : TA} {nm : Option Str}
variable {g : List Value → List Value → List Value} {gV : List V → List V → List V}
theorem run_fnkS {pins : List (Addr × Obj)} {σ : St} {H : Hp} {s : Shared} {Q : VK} {us ws : List Value} {vs zs : List V} (F : FnOk X.prog X.w X.K X.mg X.base CX k f fd ps sp) (hr : Room k X.A) (hb : KBinds X.K fd ps ks g gV) (hx : PassesAt CX X σ (E σ))
    (I : Inv X pins σ H s) (r : Vals vs us) (rz : Vals zs ws) (h : sp (gV vs zs) H Q (E σ)) : wpAny (model X.prog X.w) X.A (call (.ref f) us (ks.zip ws)) (EP X pins σ Q) X.xe s := by
  have r2 := hb.rel r rz
  have hl : (g us ws).length = ps.length := by rw [← r2.length]; exact F.len _ _ _ _ h
  refine wpAny_call (codeAny_mono (F.run X.A X.stack s H ⟨us, ks.zip ws⟩ (g us ws) (gV vs zs) Q (E σ) hr I.env0 (hb.to s us ws I.kIn hl) r2 h) fun r s' hq => ?_)
  cases r with
  | error e => exact hx pins H s e s' I hq
  | ok fl =>
    cases fl with
    | ret u => exact I.after hq
    | next => exact False.elim hq
    | brk => exact False.elim hq
    | cont => exact False.elim hq
/-- o.m(e, .., k = v), what is raised is wished for at the slots -/
def tMethKW (C : Addr) (m : Str) (sp : Sp) (gV : List V → List V → List V) (E : St → XK) (ta : TE) (t tk : TA) : TE := fun σ H Q => ta σ H fun x H1 => ∃ a dx fs, x = .ref a ∧ H1 a = some (.ins C dx fs) ∧ fs.lookup m = none ∧
  t σ H1 fun vs H2 => tk σ H2 fun zs H3 => sp (gV (x :: vs) zs) H3 Q (E σ)
theorem pe_methKW {pl : Sem Bool} (he : PE X o ta) (c : Cls X.K C) (hm : Meth X.K C m f) (F : FnOk X.prog X.w X.K X.mg X.base CX k f fd ps sp) (hr : Room k X.A) (hb : KBinds X.K fd ps ks g gV) (hx : ∀ σ, PassesAt CX X σ (E σ)) (ha : PA X (e :: es) t) (hkw : PK X kws tk)
    (hall : (backToKw pos (keywordEach kws X.env)).all (·.1.isSome) = true := by rfl) (hks : (backToKw pos (keywordEach kws X.env)).filterMap (·.1) = ks := by rfl)
    (hst : starEach (e :: es) X.env = (false, eval e X.env) :: starEach es X.env := by rfl)
    (hpl : ((backTo pos (starEach (e :: es) X.env)).any (·.1) || (backToKw pos (keywordEach kws X.env)).any (·.1.isNone)) = false := by rfl)
    (ht : eval (.Call (.Attribute o m apos) (e :: es) kws pos) X.env = (do
      let ov ← eval o X.env
      standAt apos.atName
      let (f, first) ← holding [ov] (getMethod ov m pl)
      callWith pos f first (backTo pos (starEach (e :: es) X.env)) (backToKw pos (keywordEach kws X.env))) := by rfl) :
    PE X (.Call (.Attribute o m apos) (e :: es) kws pos) (tMethKW C m sp gV E ta t tk) := by
  refine ⟨fun pins s σ H Q I h => ?_⟩
  refine PySem.W.methodCall_KW (pl := pl) (thn (he.run pins s σ H _ I h) fun u s1 ⟨x, H1, I1, rx, a, dx, fs, ex, ea, l, q⟩ => ?_) ht
  subst ex
  obtain rfl : u = Value.ref a := rx
  refine getmeth_ok I1 ea c hm l ?_
  refine PySem.W.callWith_KW (first := [.ref a]) (h₀ := X.base) I.ok.mod.kin hm.kp hall (thn (ha.run pos pins s1 σ H1 _ I1 q) fun us s2 ⟨vs, H2, I2, r, q2⟩ => ?_) hpl hst
  refine thn (hkw.run pos pins s2 σ H2 _ I2 q2) fun ws s3 ⟨zs, H3, I3, rz, q3⟩ => ⟨I3.kIn, ?_⟩
  rw [hks]
  exact run_fnkS (us := .ref a :: us) (vs := .ref a :: vs) F hr hb (hx σ) I3 (.cons rfl r) rz q3
end
/-- isinstance(e, c), e the error that the suite holds, of the class at D, its fields at dd -/
def rIsX (K : PySem.W.Frag) (D a dd : Addr) : List V → Hp → VK → Prop := fun xs H Q => ∃ (c : V) (cv : Value) (b : Bool) (fs : List (Str × V)), xs = [.ref a, c] ∧ (∀ u, RelV c u → u = cv) ∧ H dd = some (.xd fs) ∧ PySem.W.kitOne K (.ref D) cv = some b ∧ Q (.bl b) H
theorem call_isX {X : Cx} {a D dd : Addr} {oe : Obj} {pn : List (Addr × Obj)} (C : ExcC X.K D) (hz : Zc (.ref D) (some dd) oe) (hf : ∃ vs, oe.data = .fields vs) : CallR (X.suite a ((a, oe) :: pn)) (.builtin "isinstance") (rIsX X.K D a dd) := by
  intro pins s σ H xs us Q I r h
  obtain ⟨c, cv, b, fs, rfl, hcv, hx, e, q⟩ := h
  obtain ⟨u1, u2, rfl, r1, r2⟩ := vals2 r
  cases r1
  have ec := hcv _ r2
  subst ec
  obtain ⟨hget, _⟩ := I.pin (a, oe) (List.mem_append.mpr (.inl List.mem_cons_self))
  obtain ⟨vs, hv⟩ := hf
  obtain ⟨mA, ⟨od, es, ep, ho, _⟩, _⟩ := (show ObjOk X.prog X.w H s.heap dd (.xd fs) from I.hok dd _ hx)
  have J : PySem.W.InstAt s.heap a oe D (some od) := ⟨hget, hz.1, by unfold PySem.W.notCls; rw [hv] <;> rfl, by rw [hz.2]; exact ho⟩
  exact PySem.W.kia_one (PySem.W.pf_kitx C) I.kIn J e (fun z => nomatch z) fun tk => ⟨.bl b, H, I.kept (t' := tk) fun _ _ z => z, rfl, q⟩
/-- .. whatever class it has -/
def rIsW (K : PySem.W.Frag) (a : Addr) (cls : Value) (d : Option Addr) : List V → Hp → VK → Prop := fun xs H Q => ∃ D dd : Addr, cls = .ref D ∧ d = some dd ∧ ExcC K D ∧ rIsX K D a dd xs H Q
theorem call_isW {X : Cx} {a : Addr} {oe : Obj} {cls : Value} {d : Option Addr} {pn : List (Addr × Obj)} (hz : Zc cls d oe) (hf : ∃ vs, oe.data = .fields vs) : CallR (X.suite a ((a, oe) :: pn)) (.builtin "isinstance") (rIsW X.K a cls d) := by
  intro pins s σ H xs us Q I r h
  obtain ⟨D, dd, rfl, rfl, C, h⟩ := h
  exact call_isX C hz hf pins s σ H xs us Q I r h
theorem kit_exm {K : PySem.W.Frag} {A B : Addr} {b : Bool} (h1 : PySem.W.exmOne K (.ref A) (.ref A) = some true) (h2 : PySem.W.exmOne K (.ref A) (.ref B) = some b) : PySem.W.kitOne K (.ref A) (.ref B) = some b := by
  unfold PySem.W.kitOne
  by_cases e : A = B
  · subst e
    rw [h1] at h2
    rw [if_pos (by simp)]
    exact h2
  · rw [if_neg (by simpa using e)]
    unfold PySem.W.exmOne at h2
    split at h2
    · exact h2
    · cases h2
theorem kit_bl {K : PySem.W.Frag} {A : Addr} {T : String} {b : Bool} (h1 : PySem.W.subIn K (.ref A) (.type T) = some b) (h2 : PySem.W.kitMeta T = true) : PySem.W.kitOne K (.ref A) (.type T) = some b := by
  unfold PySem.W.kitOne
  rw [if_neg (by simp)]
  show (if PySem.W.kitMeta T = true then PySem.W.subIn K (.ref A) (.type T) else none) = some b
  rw [if_pos h2]
  exact h1
/-! ### several clauses, each with a name or without one -/
structure Cl where
  c : Value
  i : Option Nat
  ts : Addr → Value → Option Addr → TS
def Cl.at (cl : Cl) (a : Addr) (cls : Value) (d : Option Addr) (D : Ends) (σ : St) (H : Hp) : Prop := match cl.i with
  | none => cl.ts a cls d D σ H
  | some i => cl.ts a cls d { nx := fun σ' H' => D.nx (σ'.set i none) H', rt := D.rt, bk := fun σ' H' => D.bk (σ'.set i none) H', ct := fun σ' H' => D.ct (σ'.set i none) H' } (σ.set i (some (.ref a))) H
def wCls (K : PySem.W.Frag) (Wout : WX) (D : Ends) : List Cl → WX
  | [] => Wout
  | cl :: r => fun cls d σ H => ∃ b, PySem.W.exmOne K cls cl.c = some b ∧ (b = true → ∀ a, H a = none → cl.at a cls d D σ H) ∧ (b = false → wCls K Wout D r cls d σ H)
inductive ClsOk (X : Cx) : List ExceptHandler → List Cl → Prop
  | nil : ClsOk X [] []
  | plain {x : Str} {c : Value} {ts : Addr → Value → Option Addr → TS} {b₀ : Stmt} {suite : List Stmt} {np pos' : Pos} {hds : List ExceptHandler} {l : List Cl} (hc : Names X x c)
      (hsu : ∀ (a : Addr) (oe : Obj) (cls : Value) (d : Option Addr) (pn : List (Addr × Obj)), Zc cls d oe → (∃ vs, oe.data = .fields vs) → PSs (X.suite a ((a, oe) :: pn)) (b₀ :: suite) (ts a cls d)) (r : ClsOk X hds l) :
      ClsOk X (.ExceptHandler (some (.Name x np)) none (b₀ :: suite) pos' :: hds) (⟨c, none, ts⟩ :: l)
  | named {x n : Str} {i : Nat} {c : Value} {ts : Addr → Value → Option Addr → TS} {b₀ : Stmt} {suite : List Stmt} {np pos' : Pos} {hds : List ExceptHandler} {l : List Cl} (hN : X.N.Nodup) (hi : X.N[i]? = some n) (hln : X.env.kindOf n = some .local) (hc : Names X x c)
      (hsu : ∀ (a : Addr) (oe : Obj) (cls : Value) (d : Option Addr) (pn : List (Addr × Obj)), Zc cls d oe → (∃ vs, oe.data = .fields vs) → PSs (X.suite a ((a, oe) :: pn)) (b₀ :: suite) (ts a cls d)) (r : ClsOk X hds l) :
      ClsOk X (.ExceptHandler (some (.Name x np)) (some n) (b₀ :: suite) pos' :: hds) (⟨c, some i, ts⟩ :: l)
section
variable {X : Cx} {body : List Stmt} {h₀ : ExceptHandler} {hds : List ExceptHandler} {l : List Cl} {pos : Pos} {tb : WX → TS} {Wout : WX}
/-- the error stands on the ground ahead of the clauses -/
structure Ground (X : Cx) (pins : List (Addr × Obj)) (a : Addr) (B : Heap) (sI s' : Shared) (h3 : Heap) (σ : St) (H : Hp) (cls : Value) (d : Option Addr) : Prop where
  J : Inv X pins σ H sI
  nb : ∀ b o, sI.heap.get? b = some o → b ∉ frs X.stack → B.get? b = some o
  up : sI.heap.UpToSlots h3
  fl : HandSPX.FlyingZ B (X.env :: X.outer) a (Zc cls d) h3
  na : H a = none
  os : s'.os = sI.os
  ag : AllBare s'.gens
theorem Ground.inv {pins : List (Addr × Obj)} {a : Addr} {B : Heap} {sI s' : Shared} {h3 : Heap} {σ : St} {H : Hp} {cls : Value} {d : Option Addr} (G : Ground X pins a B sI s' h3 σ H cls d) : Inv X pins σ H { s' with heap := h3 } :=
  G.J.landed G.nb G.fl.1 G.up G.os G.ag
theorem Ground.off {pins : List (Addr × Obj)} {a : Addr} {B : Heap} {sI s' : Shared} {h3 : Heap} {σ : St} {H : Hp} {cls : Value} {d : Option Addr} (G : Ground X pins a B sI s' h3 σ H cls d) (hf : X.env.frame = some X.env.locals) : a ≠ X.env.locals ∧ a ∉ X.fs := by
  obtain ⟨oe, vs, he, _, hd⟩ := G.fl.there
  have nfr : a ∉ frs (X.env :: X.outer) := fun hm => by
    obtain ⟨_, o', e', hnf⟩ := G.fl.2.2.1.mem hm
    rw [he] at e'
    cases e'
    exact hnf _ hd
  refine ⟨fun z => nfr (List.mem_filterMap.mpr ⟨X.env, List.mem_cons_self, by rw [hf, z]⟩), fun hm => ?_⟩
  obtain ⟨ev, hev, q⟩ := List.mem_filterMap.mp hm
  exact nfr (List.mem_filterMap.mpr ⟨ev, List.mem_cons_of_mem _ hev, q⟩)
theorem clauses (hs : X.stack = X.env :: X.outer) (hf : X.env.frame = some X.env.locals) (tk : Takes X Wout) {pins : List (Addr × Obj)} {a : Addr} {B : Heap} {sI s' : Shared} {h3 : Heap} {σ : St} {H : Hp} {cls : Value} {d : Option Addr} {D : Ends}
    (G : Ground X pins a B sI s' h3 σ H cls d) (ok : X.Ok) {hds : List ExceptHandler} {l : List Cl} (hk : ClsOk X hds l) (w : wCls X.K Wout D l cls d σ H) :
    wpAny (model X.prog X.w) X.A (handleBy (.ref a) X.env hds) (SP X pins D) X.xe { s' with heap := h3 } := by
  obtain ⟨nL, nF⟩ := G.off hf
  have J3 := G.inv
  obtain ⟨oe3, vs3, he3, hz3, hd3⟩ := G.fl.there
  have S3 := J3.suite he3 hd3 G.na nL nF
  have LT : PySem.W.Looks (model X.prog X.w) h3 (typeOf (.ref a)) cls := fun A Q E s k q => wpAny_typeOf_ref (k _ _ he3) (by rw [hz3.1]; exact q)
  have name : ∀ {x : Str} {c : Value} {np : Pos} {Q : Value → Shared → Prop} {E : Value → Shared → Prop}, Names X x c → Q c { s' with heap := h3 } → wpAny (model X.prog X.w) (X.A.mark (some (.ref a))) (eval (.Name x np) X.env) Q E { s' with heap := h3 } := fun {x c np Q E} hc q => by
    obtain ⟨hg, hdbg, hm | ⟨hm, hv, hnn⟩⟩ := hc
    · exact ld_glob (X := X.suite a ((a, oe3) :: (X.pn ++ pins))) S3 hg hm q hdbg
    · exact ld_blt (X := X.suite a ((a, oe3) :: (X.pn ++ pins))) S3 hg hm hv q hnn hdbg
  have again : ∀ {h4 : Heap}, HandSPX.FlyingZ B (X.env :: X.outer) a (Zc cls d) h4 → Heap.UpToSlots h3 h4 → ∃ oe4 vs4, Zc cls d oe4 ∧ oe4.data = .fields vs4 ∧ Inv (X.suite a ((a, oe4) :: (X.pn ++ pins))) [] σ H { s' with heap := h4 } := fun {h4} fl4 up4 => by
    have J4 : Inv X pins σ H { s' with heap := h4 } := G.J.landed G.nb fl4.1 (G.up.trans up4) G.os G.ag
    obtain ⟨oe4, vs4, he4, hz4, hd4⟩ := fl4.there
    exact ⟨oe4, vs4, hz4, hd4, J4.suite he4 hd4 G.na nL nF⟩
  induction hk with
  | nil =>
    refine wpAny_handleBy_nil ?_
    obtain ⟨k1, k2, k3, oe, vs, T, oT, ts', he, hz, hd, h1, hr⟩ := id G.fl
    unfold PySem.passOn
    refine wpAny_bind (wpAny_field he hd h1 ?_)
    rw [if_neg (show ¬ ((Value.ref T == Value.none) = true) from by simp)]
    have fin : wpAny (model X.prog X.w) X.A (setFlight (.ref a) X.env.frame) (fun _ s4 => wpAny (model X.prog X.w) X.A (throw (.ref a) : Sem Flow) (SP X pins D) X.xe s4) X.xe { s' with heap := h3 } := by
      rw [hf]
      refine HandSPX.setFlight_upZ G.fl fun h4 hh4 up4 => wpAny_throw (tk _ _ ?_)
      exact ⟨a, B, sI, pins, σ, H, cls, d, rfl, G.J, G.nb, G.up.trans up4, .inr (.inr (by rw [hs]; exact hh4)), G.na, G.os, G.ag, w⟩
    first
      | exact wpAny_bind (wpAny_pure (wpAny_bind fin))
      | exact wpAny_bind fin
  | @plain x c ts b₀ suite np pos' hds2 l2 hc hsu r ih =>
    obtain ⟨b, hb1, hyes, hno⟩ := w
    refine wpAny_handleBy_cons (codeAny_handlers_test ?_) (by intro q; cases q)
    refine name hc ((PySem.W.exm_one (M := model X.prog X.w) J3.kIn LT hb1).here ?_)
    cases b with
    | true =>
      refine codeAny_handlers_suite (HandSPX.lands_againZ G.fl fun h4 fl4 up4 => ?_)
      obtain ⟨oe4, vs4, hz4, hd4, S4⟩ := again fl4 up4
      refine wpAny_mono ((hsu a oe4 cls d (X.pn ++ pins) hz4 ⟨_, hd4⟩).run [] _ _ H _ S4 (hyes rfl a G.na)) (fun f s6 hsp => ?_) (fun _ _ z => False.elim z)
      cases f with
      | next => obtain ⟨σ6, H6, S6, q6⟩ := hsp; exact ⟨_, _, S6.unsuite ok, q6⟩
      | brk => obtain ⟨σ6, H6, S6, q6⟩ := hsp; exact ⟨_, _, S6.unsuite ok, q6⟩
      | cont => obtain ⟨σ6, H6, S6, q6⟩ := hsp; exact ⟨_, _, S6.unsuite ok, q6⟩
      | ret u => obtain ⟨v6, σ6, H6, S6, r6, q6⟩ := hsp; exact ⟨_, _, _, S6.unsuite ok, r6, q6⟩
    | false =>
      show wpAny _ X.A (handleBy (.ref a) X.env hds2) _ _ _
      exact ih (hno rfl)
  | @named x n i c ts b₀ suite np pos' hds2 l2 hN hi hln hc hsu r ih =>
    obtain ⟨b, hb1, hyes, hno⟩ := w
    refine wpAny_handleBy_cons (codeAny_handlers_test ?_) (by intro q; cases q)
    refine name hc ((PySem.W.exm_one (M := model X.prog X.w) J3.kIn LT hb1).here ?_)
    cases b with
    | true =>
      refine codeAny_handlers_suite_as (HandSPX.lands_againZ G.fl fun h4 fl4 up4 => ?_)
      obtain ⟨oe4, vs4, hz4, hd4, S4⟩ := again fl4 up4
      refine store_ok (X := X.suite a ((a, oe4) :: (X.pn ++ pins))) (v := .ref a) S4 hN hi (.inl hln) rfl (fun s5 S5 => ?_) (.inr hln)
      refine wpAny_mono ((hsu a oe4 cls d (X.pn ++ pins) hz4 ⟨_, hd4⟩).run [] s5 _ H _ S5 (hyes rfl a G.na)) (fun f s6 hsp => ?_) (fun _ _ z => False.elim z)
      have fin : ∀ {σ6 : St} {H6 : Hp} {Q : Shared → Prop}, Inv (X.suite a ((a, oe4) :: (X.pn ++ pins))) [] σ6 H6 s6 → (∀ s7, Inv X pins (σ6.set i none) H6 s7 → Q s7) →
          wpAny (model X.prog X.w) X.A (do bindName X.env n .none; unbindBehindTheSuite X.env n pos') (fun _ s7 => Q s7) X.xe s6 := fun {σ6 H6 Q} S6 hq => gone_ok (S6.unsuite ok) hN hi hln hq
      cases f with
      | next => obtain ⟨σ6, H6, S6, q6⟩ := hsp; exact fin S6 fun s7 J7 => ⟨_, _, J7, q6⟩
      | brk => obtain ⟨σ6, H6, S6, q6⟩ := hsp; exact fin S6 fun s7 J7 => ⟨_, _, J7, q6⟩
      | cont => obtain ⟨σ6, H6, S6, q6⟩ := hsp; exact fin S6 fun s7 J7 => ⟨_, _, J7, q6⟩
      | ret u => obtain ⟨v6, σ6, H6, S6, r6, q6⟩ := hsp; exact fin S6 fun s7 J7 => ⟨_, _, _, J7, r6, q6⟩
    | false =>
      show wpAny _ X.A (handleBy (.ref a) X.env hds2) _ _ _
      exact ih (hno rfl)
theorem ps_try_cls (hs : X.stack = X.env :: X.outer) (hf : X.env.frame = some X.env.locals) (tk : Takes X Wout)
    (hb : ∀ (W : WX) (pn : List (Addr × Obj)) (xe : Value → Shared → Prop), Takes (X.tr pn xe) W → PassesOwn (model X.prog X.w) X.A X.env xe → PSs (X.tr pn xe) body (tb W))
    (hh : ClsOk X (h₀ :: hds) l) : PS X (.Try body (h₀ :: hds) [] [] pos) (fun D σ H => tb (wCls X.K Wout D l) D σ H) := by
  refine ⟨fun pins s σ H D I h => ?_⟩
  have ok := I.ok
  have hfr : X.A.frames = some (X.env :: X.outer) := by rw [ok.frames, hs]
  refine wpAny_Try_except ?_
  refine wpAny_mono ((hb (wCls X.K Wout D l) (X.pn ++ pins) (fun e s₁ => wpAny (model X.prog X.w) X.A (noteFrame e X.env) (fun _ s₂ => wpAny (model X.prog X.w) X.A (setFlight e none) (fun _ s₃ =>
    wpAny (model X.prog X.w) X.A (handleBy e X.env (h₀ :: hds)) (SP X pins D) X.xe s₃) X.xe s₂) X.xe s₁) (fun u s' xx => ?_) PassesOwn.looking).run [] s σ H D (I.toTry _) h) (fun f s1 hsp => ?_) (fun e s1 he => he)
  · obtain ⟨a, B, sI, pins', σ', H', cls, d, rfl, J', nb, up, sky, na, os, ag, w⟩ := xx
    have sky' : Sky B (X.env :: X.outer) a (Zc cls d) X.env.locals s'.heap := by rw [← hs]; exact sky
    show wpAny (model X.prog X.w) X.A (noteFrame (.ref a) X.env) _ _ _
    refine Sky.land Zc.steady hfr hf sky' fun h3 fl3 up3 => ?_
    exact clauses hs hf tk ⟨J'.ofTry ok, nb, up.trans up3, fl3, na, os, ag⟩ ok hh w
  · cases f with
    | next => obtain ⟨σ', H', J', q⟩ := hsp; exact wpAny_execs_nil ⟨σ', H', J'.ofTry ok, q⟩
    | brk => obtain ⟨σ', H', J', q⟩ := hsp; exact ⟨σ', H', J'.ofTry ok, q⟩
    | cont => obtain ⟨σ', H', J', q⟩ := hsp; exact ⟨σ', H', J'.ofTry ok, q⟩
    | ret u => obtain ⟨v, σ', H', J', r, q⟩ := hsp; exact ⟨v, σ', H', J'.ofTry ok, r, q⟩
end
/-- an own error's __init__(self, x): self.f = x -/
def spErr (C : Addr) (f : Str) : Sp := fun vs H Q _ => ∃ (e : Addr) (v : V), vs = [.ref e, v] ∧ H e = some (exo e C none) ∧ ∀ d, H d = none → d ≠ e → Q .non (upd (upd H d (exd d [(f, v)])) e (exo e C (some d)))
/-- what a raise C(v) of such a class leaves: its dict is new -/
theorem raise_err {C : Addr} {f : Str} {v : V} {H : Hp} {W : Value → Option Addr → Hp → Prop} (h : ∀ d H', H d = none → H' d = some (.xd [(f, v)]) → Same H H' → W (.ref C) (some d) H') :
    [v].length ≤ 1000 ∧ ∀ a, H a = none → spErr C f (.ref a :: ([v] ++ [])) (upd H a (exo a C none))
      (fun u H2 => u = .non ∧ ∃ (d : Addr) (fs : List (Str × V)), H2 a = some (exo a C (some d)) ∧ H2 d = some (exd d fs) ∧ H d = none ∧ W (.ref C) (some d) (upd (del H2 a) d (.xd fs))) (fun _ _ _ => False) := by
  refine ⟨by show 1 ≤ 1000; decide, fun a ha => ⟨a, v, rfl, upd_same, fun d hd nd => ⟨rfl, d, [(f, v)], upd_same, ?_, ?_, ?_⟩⟩⟩
  · rw [upd_ne nd, upd_same]
  · rw [upd_ne nd] at hd
    exact hd
  · rw [upd_ne nd] at hd
    refine h d _ hd upd_same fun b o e => ?_
    have nb : b ≠ d := ne_of_none e hd
    have na : b ≠ a := ne_of_none e ha
    rw [upd_ne nb, del_ne na, upd_ne na, upd_ne nb, upd_ne na]
    exact e
section
variable {X : Cx}
/-- a module's constant -/
theorem pe_globI {x : Str} {n : Int} {pos : Pos} (hg : Gl X x) (hm : ∃ t, X.mg x = some (.int n t)) (hd : (x == ("__debug__" : Str)) = false := by decide) : PE X (.Name x pos) (tC (.int n)) := by
  obtain ⟨t, h⟩ := hm
  exact pe_glob hg h ⟨t, rfl⟩ hd
theorem pe_globS {x z : Str} {pos : Pos} (hg : Gl X x) (hm : ∃ t, X.mg x = some (.str z t)) (hd : (x == ("__debug__" : Str)) = false := by decide) : PE X (.Name x pos) (tC (.str z)) := by
  obtain ⟨t, h⟩ := hm
  exact pe_glob hg h ⟨t, rfl⟩ hd
/-- the walk stops ahead of a loop's turns -/
def iWait (w : TI) : TI := fun σ H R => w σ H fun J H1 => Wait (R J H1)
theorem pi_wait {tg iter : Expr} {w : TI} (h : PI X tg iter w) : PI X tg iter (iWait w) :=
  ⟨fun pins s σ H R I q => thn (h.run pins s σ H _ I q) fun v s1 h1 => thn h1 fun itv s2 ⟨it, fp, tn, J, H2, e, I2, T, st2, f2, r⟩ => ⟨it, fp, tn, J, H2, e, I2, T, st2, f2, r.out⟩⟩
end
end L2
set_option Elab.async false
set_option linter.all false
set_option maxRecDepth 100000
set_option maxHeartbeats 4000000
/-! len(set(t)) of texts; an object made within a try. -/
namespace PfS
open PySem PySem.Spec PyProof.Rows
/-- each text once, in the order in which they come -/
def uniq (ws : List Str) : List Str := ws.foldl (fun acc z => if z ∈ acc then acc else acc ++ [z]) []
theorem uniq_snoc (ws : List Str) (z : Str) : uniq (ws ++ [z]) = if z ∈ uniq ws then uniq ws else uniq ws ++ [z] := by
  unfold uniq
  rw [List.foldl_append] <;> rfl
theorem snoc_ind {α : Type} {p : List α → Prop} (h0 : p []) (hs : ∀ l x, p l → p (l ++ [x])) (l : List α) : p l := by
  have : ∀ r : List α, p r.reverse := fun r => by
    induction r with
    | nil => exact h0
    | cons x r ih =>
      rw [List.reverse_cons]
      exact hs _ _ ih
  have := this l.reverse
  rwa [List.reverse_reverse] at this
theorem mem_uniq (ws : List Str) : ∀ z, z ∈ uniq ws ↔ z ∈ ws := by
  refine snoc_ind (p := fun ws => ∀ z, z ∈ uniq ws ↔ z ∈ ws) (fun z => Iff.rfl) (fun l x ih z => ?_) ws
  rw [uniq_snoc]
  split
  · rename_i h
    rw [ih z, List.mem_append, List.mem_singleton]
    constructor
    · exact .inl
    · rintro (q | q)
      · exact q
      · rw [q]; exact (ih x).mp h
  · rw [List.mem_append, List.mem_append, ih z]
theorem uniq_le (ws : List Str) : (uniq ws).length ≤ ws.length := by
  refine snoc_ind (p := fun ws => (uniq ws).length ≤ ws.length) (Nat.le_refl _) (fun l x ih => ?_) ws
  rw [uniq_snoc, List.length_append]
  split
  · exact Nat.le_trans ih (Nat.le_add_right _ _)
  · rw [List.length_append]
    exact Nat.add_le_add_right ih _
theorem uniq_len (ws : List Str) : (uniq ws).length = ws.length ↔ ws.Nodup := by
  refine snoc_ind (p := fun ws => (uniq ws).length = ws.length ↔ ws.Nodup) ⟨fun _ => List.nodup_nil, fun _ => rfl⟩ (fun l x ih => ?_) ws
  rw [uniq_snoc, List.length_append]
  have hle := uniq_le l
  split
  · rename_i h
    have hx := (mem_uniq l x).mp h
    constructor
    · intro e
      exact absurd e (by show ¬ _ = _ + 1; omega)
    · intro nd
      rw [List.nodup_append] at nd
      exact absurd rfl (nd.2.2 x hx x List.mem_cons_self)
  · rename_i h
    have hx : x ∉ l := fun q => h ((mem_uniq l x).mpr q)
    rw [List.length_append]
    constructor
    · intro e
      have e2 : (uniq l).length = l.length := by
        have : (uniq l).length + 1 = l.length + 1 := e
        omega
      rw [List.nodup_append]
      refine ⟨ih.mp e2, List.nodup_cons.mpr ⟨(fun z => nomatch z), List.nodup_nil⟩, fun y hy z hz => ?_⟩
      rw [List.mem_singleton.mp hz]
      exact fun q => hx (q ▸ hy)
    · intro nd
      rw [List.nodup_append] at nd
      show (uniq l).length + 1 = l.length + 1
      rw [ih.mpr nd.1]
theorem any_uniq (ws : List Str) (z y : Str) : (ws.any (· == y) || decide (y = z)) = (ws ++ [z]).any (· == y) := by
  rw [List.any_append]
  by_cases e : y = z
  · subst e; simp
  · have hb : (z == y) = false := by simpa [beq_iff_eq] using (fun q : z = y => e q.symm)
    simp [hb, e]
section
variable {prog : Program} {w : World} {A : Around} {R : Result → Shared → Prop} {J : Addr} {fp wr : List Addr} {G : Array GenState → Array GenState → Prop} {n : Nat} {P : Nat → Value → Prop} {St : Nat → Shared → Prop}
/-- the loop of set.update over texts -/
theorem loopU (W : WalksS prog w A.in1 J fp wr G n P St) (S : Addr) (hSf : S ∉ fp) (ws : List Str) (hsz : ws.length = n) (hn1 : n ≤ 4000)
    (hval : ∀ i v, P i v → ∃ t, v = .str (ws.getD i Str.empty) t) :
    ∀ (k i : Nat) (s : Shared), n - i = k → i ≤ n → St i s → s.heap.SetOf (PySem.strKind prog w) S (fun y => (ws.take i).any (· == y)) (uniq (ws.take i)).length →
      (∀ s', Moved (S :: wr) G s s' → s'.heap.SetOf (PySem.strKind prog w) S (fun y => (ws.take n).any (· == y)) (uniq (ws.take n)).length → R (.ok (.ret .none)) s') →
      codeAny (model prog w) A (.builtin "set.update.loop" ⟨[.ref S, .ref J], []⟩) R s := by
  have hSw : S ∉ wr := fun q => hSf (W.sub _ q)
  have sub1 : ∀ b ∈ wr, b ∈ S :: wr := fun b q => List.mem_cons_of_mem _ q
  intro k
  induction k with
  | zero =>
    intro i s hk hi st hS hR
    have e : i = n := by omega
    subst e
    refine codeAny_builtin F.entry_set_update_loop ?_
    rw [Around.under_plainId F.plain_set_update_loop _]
    show wpAny _ A.in1 (pyNext (.ref J) >>= _) _ _ s
    refine wpAny_bind (W.done s _ _ st fun s1 mv => ?_)
    show wpAny _ A.in1 (ret Value.none) _ _ s1
    refine wpAny_pure (hR s1 (mv.mono sub1) ?_)
    obtain ⟨o, es, ep, tb, ho, q⟩ := hS
    exact ⟨o, es, ep, tb, mv.heap S _ hSw ho, q⟩
  | succ k ih =>
    intro i s hk hi st hS hR
    have lt : i < n := by omega
    refine codeAny_builtin F.entry_set_update_loop ?_
    rw [Around.under_plainId F.plain_set_update_loop _]
    show wpAny _ A.in1 (pyNext (.ref J) >>= _) _ _ s
    refine wpAny_bind (W.item i s _ _ lt st fun v s1 hP st1 mv => ?_)
    obtain ⟨t, rfl⟩ := hval i v hP
    obtain ⟨z, ez⟩ : ∃ z, z = ws.getD i Str.empty := ⟨_, rfl⟩
    rw [← ez]
    have hz : ws[i]? = some z := by
      rw [ez, List.getD_eq_getElem?_getD, List.getElem?_eq_getElem (by omega)] <;> rfl
    have S1 : s1.heap.SetOf (PySem.strKind prog w) S (fun y => (ws.take i).any (· == y)) (uniq (ws.take i)).length := by
      obtain ⟨o, es, ep, tb, ho, q⟩ := hS
      exact ⟨o, es, ep, tb, mv.heap S _ hSw ho, q⟩
    have few : (uniq (ws.take i)).length ≤ 4000 := Nat.le_trans (uniq_le _) (by rw [List.length_take]; omega)
    show wpAny _ A.in1 (holding [Value.str z t] (setAdd S (.str z t)) >>= _) _ _ s1
    refine wpAny_bind (wpAny_holding ?_)
    unfold setAdd
    refine wpAny_holding (wpAny_bind ((PySem.strKind prog w).pyHash (k := z) (strKind_is _ _ _ _) ?_))
    refine wpAny_setAddHashed_of (knd := PySem.strKind prog w) (s := { s1 with toks := s1.toks + 1 }) (strKind_is _ _ _ _) rfl S1 (by unfold scanBound; omega) fun h2 sb S2 => ?_
    have tk : ws.take (i + 1) = ws.take i ++ [z] := by rw [List.take_add_one, hz] <;> rfl
    have S3 : h2.SetOf (PySem.strKind prog w) S (fun y => (ws.take (i + 1)).any (· == y)) (uniq (ws.take (i + 1))).length := by
      rw [tk]
      refine SetOf_congr S2 (fun y => any_uniq _ _ _) ?_
      rw [uniq_snoc]
      have hany : (ws.take i).any (· == z) = decide (z ∈ uniq (ws.take i)) := by
        by_cases q : z ∈ ws.take i
        · rw [decide_eq_true ((mem_uniq _ _).mpr q)]
          exact List.any_eq_true.mpr ⟨z, q, by simp⟩
        · rw [decide_eq_false (fun y => q ((mem_uniq _ _).mp y))]
          refine List.any_eq_false.mpr fun y hy e => q ?_
          rw [← beq_iff_eq.mp e]
          exact hy
      rw [hany]
      by_cases q : z ∈ uniq (ws.take i)
      · rw [if_pos (decide_eq_true q), if_pos q]
      · rw [if_neg (by rw [decide_eq_false q]; exact Bool.false_ne_true), if_neg q, List.length_append] <;> rfl
    refine wpAny_pure ⟨plainId_quiet F.plain_set_update_loop _, ih (i + 1) _ (by omega) lt (W.frame _ s1 _ _ st1 (Nat.le_succ _) fun b hb o e => ?_) S3 fun s3 mv3 q3 => ?_⟩
    · rw [sb.2 b (fun q : b = S => hSf (by rw [← q]; exact hb))]
      exact e
    · refine hR s3 (Moved.trans W.gtrans ((mv.mono sub1).then_heap (Nat.le_succ _) fun b o hb e => ?_) mv3) q3
      rw [sb.2 b (fun q : b = S => hb (by rw [q]; exact List.mem_cons_self))]
      exact e
end
section
variable {prog : Program} {w : World} {A : Around} {E : Value → Shared → Prop} {s : Shared}
abbrev emptySet (ld : Bool) : Obj := { cls := .type "set", dict := none, data := .set #[] 0 (.fresh 0 0 ld) }
/-- set(t), t a tuple of texts -/
theorem callSetT {l : Addr} {its : Array Value} {ws : List Str} {Q : Value → Shared → Prop} (hh : A.handled = none) (hl : s.heap.IsTuple l its) (hi : StrsAre its.toList ws) (hn : ws.length ≤ 4000)
    (q : ∀ (h2 : Heap) (tk : Nat), h2.SetOf (PySem.strKind prog w) s.heap.objs.size (fun y => ws.any (· == y)) (uniq ws).length → (∀ b o, b < s.heap.objs.size → s.heap.get? b = some o → h2.get? b = some o) → Q (.ref s.heap.objs.size) { s with heap := h2, toks := tk }) :
    wpAny (model prog w) A (call (.type "set") [.ref l]) Q E s := by
  obtain ⟨c, tl, hmro⟩ := PySem.F.called_set.mro
  have g1 := PySem.F.called_set.made
  have g2 := PySem.F.called_set.sub
  have g3 := PySem.F.called_set.notType
  have g4 := PySem.F.called_set.canCreate
  have g5 := PySem.F.typeCall_set_1 (.ref l)
  have hsz : ws.length = its.size := by rw [← StrsAre.len_eq hi, Array.length_toList]
  refine wpAny_call (codeAny_of_tree ?_)
  show wpAny _ _ (callAny (.type "set") _) _ _ _
  refine wpAny_pure ⟨Code.quiet_builtin _ (by decide +kernel), codeAny_builtin PySem.F.entry_type_call ?_⟩
  rw [Around.under_plain (weight_type_call_type "set" [.ref l] []) rfl]
  repeat (any_goals (first | assumption | wp_step))
  refine codeAny_mono (code_set_new_1 (.ref l) (E := E) (Q₁ := fun ob s1 => ∃ ld : Bool, ob = .ref s.heap.objs.size ∧ s1 = { s with heap := s.heap.push (emptySet ld) }) fun ld => ⟨ld, rfl, rfl⟩) fun r s1 hr => ?_
  cases r with
  | error e => exact hr
  | ok fl =>
    cases fl with
    | ret ob =>
      obtain ⟨ld, rfl, rfl⟩ := hr
      have hS : (s.heap.push (emptySet ld)).get? s.heap.objs.size = some (emptySet ld) := Heap.get?_push_size _ rfl
      have hT : Shared.TypeIs { s with heap := s.heap.push (emptySet ld) } (.ref s.heap.objs.size) "set" := ⟨_, hS, rfl⟩
      have g6 := PySem.F.called_set.init.lookup
      have g7 := PySem.F.called_set.init.bind (.ref s.heap.objs.size)
      repeat (any_goals (first | assumption | wp_step))
      refine codeAny_mono (codeAny_call_builtin (R := wants (fun r s2 => r = .none ∧ ∃ h2 tk, s2 = { s with heap := h2, toks := tk } ∧ h2.SetOf (PySem.strKind prog w) s.heap.objs.size (fun y => ws.any (· == y)) (uniq ws).length ∧
          (∀ b o, b < s.heap.objs.size → s.heap.get? b = some o → h2.get? b = some o)) E) PySem.F.called_set.init.plain PySem.F.entry_set_init (check_set_init_1 hT ?_)) fun r2 s2 hr2 => ?_
      · obtain ⟨ol, hol, hcl, nl, hdl⟩ := hl
        obtain ⟨oc, od, odt, os⟩ := ol
        simp only at hcl hdl
        subst hcl
        subst hdl
        have hol2 : (s.heap.push (emptySet ld)).get? l = some { cls := .type "tuple", dict := od, data := .seq its nl, slots := os } := Heap.get?_push_of_some _ hol
        have g8 := PySem.F.sub_tuple_set
        have g9 := PySem.F.sub_tuple_frozenset
        have g10 : (Value.type "tuple" == Value.type "dict") = false := by decide
        have hl1 : (s.heap.push (emptySet ld)).IsTuple l its := ⟨_, hol2, rfl, nl, rfl⟩
        unfold Builtin.«set.__init__» noKeywords Builtin.Frozenset.updateFrom
        generalize ePI : pyIter = PI
        wp_walk
        subst ePI
        refine wpAny_pyIter_tuple hl1 (wpAny_bind (wpAny_runValue ?_))
        have lS : l < s.heap.objs.size := Heap.lt_size hol
        have hh3 : A.in1.in1.in1.handled = none := by simp [hh]
        have neI : l ≠ (s.heap.push (emptySet ld)).objs.size := by
          rw [Heap.size_push]
          exact Nat.ne_of_lt (Nat.lt_succ_of_lt lS)
        have hSf : s.heap.objs.size ∉ [(s.heap.push (emptySet ld)).objs.size, l] := by
          rw [Heap.size_push]
          simp only [List.mem_cons, List.mem_singleton, List.not_mem_nil, or_false, not_or]
          exact ⟨Nat.ne_of_lt (Nat.lt_succ_self _), Nat.ne_of_gt lS⟩
        have hval : ∀ (i : Nat) (v : Value), its[i]? = some v → ∃ t, v = .str (ws.getD i Str.empty) t := fun i v hv => SS.strs_at hi i v (by rw [Array.getElem?_toList]; exact hv)
        have tkall : ws.take its.size = ws := by rw [← hsz, List.take_length]
        refine loopU ((Walks.tuple hh3 _ l neI its).toS) s.heap.objs.size hSf ws hsz (by omega) hval (its.size - 0) 0 _ (by omega) (Nat.zero_le _) ⟨⟨_, Heap.get?_push_size _ rfl, rfl, rfl⟩, (hl1.push _)⟩ ?hS0 ?hR
        case hS0 =>
          have hget : ((s.heap.push (emptySet ld)).push { cls := .type "tuple_iterator", data := .fields #[.ref l, .int 0 0] }).get? s.heap.objs.size = some (emptySet ld) := Heap.get?_push_of_some _ hS
          exact SetOf_congr ((setObjOf_fresh (knd := PySem.strKind prog w) ld).setOf hget (by unfold scanBound; omega)) (fun _ => rfl) rfl
        case hR =>
          intro s3 mv S3
          rw [tkall] at S3
          obtain ⟨h3, gn, dr, tk, os3⟩ := s3
          have eg : gn = s.gens := mv.gens
          have ed : dr = s.drawn := mv.drawn
          have eo : os3 = s.os := mv.os
          subst eg
          subst ed
          subst eo
          show wpAny _ _ _ _ _ _
          refine wpAny_pure ?_
          show wpAny _ _ (ret Value.none) _ _ _
          refine wpAny_pure ⟨rfl, h3, tk, rfl, S3, fun b o hb e => ?_⟩
          have b1 : b ≠ s.heap.objs.size := Nat.ne_of_lt hb
          have b2 : b ≠ (s.heap.push (emptySet ld)).objs.size := by
            rw [Heap.size_push]
            exact Nat.ne_of_lt (Nat.lt_succ_of_lt hb)
          refine mv.heap b o ?_ (Heap.get?_push_of_some _ (Heap.get?_push_of_some _ e))
          simp only [List.mem_cons, List.mem_singleton, List.not_mem_nil, or_false, not_or]
          exact ⟨b1, b2⟩
      · cases r2 with
        | error e => exact hr2
        | ok fl2 =>
          cases fl2 with
          | ret r =>
            obtain ⟨rfl, h2, tk, rfl, S2, k2⟩ := hr2
            repeat (any_goals (first | assumption | wp_step))
            exact q _ _ S2 k2
          | _ => exact hr2.elim
    | _ => exact hr.elim
end
end PfS
namespace L2
open PySem PySem.Spec PyProof.Rows
/-- len(set(t)), t a tuple of texts -/
def tLenU (K : PySem.W.Frag) (ta : TE) : TE := fun σ H Q => ta σ H fun x H1 => ∃ l, ∃ ws : List Str, x = .ref l ∧ SqT K H1 l (ws.map V.str) ∧ ws.length ≤ 1000 ∧ Q (.int (PfS.uniq ws).length) H1
section
variable {X : Cx}
theorem pe_lenU {a : Expr} {ta : TE} {p p2 q pos : Pos} (hc : X.calm = true) (hg : Gl X "len") (hm : X.mg "len" = none) (hg2 : Gl X "set") (hm2 : X.mg "set" = none) (ha : PE X a ta)
    (na : starEach [a] X.env = (false, eval a X.env) :: starEach [] X.env := by rfl) : PE X (.Call (.Name "len" p) [.Call (.Name "set" p2) [a] [] q] [] pos) (tLenU X.K ta) := by
  refine ⟨fun pins s σ H Q I h => ?_⟩
  refine Call_ (ld_blt I hg hm boot_len (callWith_builtin1 (args_cons ?_ rfl) rfl rfl))
  refine Call_ (ld_blt I hg2 hm2 boot_set (callWith_type1 (args_cons (thn (ha.run pins s σ H _ I h) fun v s1 ⟨x, H1, I1, r1, q1⟩ => args_nil ?_) na) na rfl))
  obtain ⟨l, ws, rfl, hq, hn, q1⟩ := q1
  cases r1
  obtain ⟨its, r, pl, hz⟩ := I1.tuple hq
  refine PfS.callSetT (I1.ok.hd hc) pl (by simpa using strsAre_of r) (by omega) fun h2 tk S2 k2 => args_nil ?_
  have hle := PfS.uniq_le ws
  obtain ⟨o, es, ep, t, ho, hex, hd, _, _, _, hf, hcn⟩ := S2
  have I2 : Inv X pins σ H1 { s1 with heap := h2, toks := tk } := I1.kept fun b o e => k2 b o (Heap.lt_size e) e
  exact call_len_set ho hex hd hf (by rw [hcn] <;> omega) ⟨.int (PfS.uniq ws).length, H1, I2.tok _, ⟨_, by rw [hcn]⟩, q1⟩
end
/-! ### an object made within a try -/
section
variable {X : Cx} {CX : CXT} {k : Nat} {f C : Addr} {fd : FuncData} {ps : List Str} {sp : Sp} {E : St → XK} {x : Str} {p pos : Pos} {e : Expr} {es : List Expr} {t : TA}
def tMakeW (C : Addr) (sp : Sp) (E : St → XK) (t : TA) : TE := fun σ H Q => t σ H fun vs H1 => ∀ x dx, H1 x = none → H1 dx = none → dx ≠ x →
  sp (.ref x :: vs) (upd (upd H1 dx (.own x)) x (.ins C dx [])) (fun v H2 => v = .non ∧ Q (.ref x) H2) (E σ)
theorem pe_makeW (M : Mk X.K C f) (F : FnOk X.prog X.w X.K X.mg X.base CX k f fd ps sp) (hr : Room (k + 1) X.A) (hg : Gl X x) (hm : X.mg x = some (.ref C)) (hb : Binds X.K fd ps []) (hx : ∀ σ, PassesAt CX X σ (E σ))
    (ha : PA X (e :: es) t) (hdb : (x == ("__debug__" : Str)) = false := by decide) (he : starEach (e :: es) X.env = (false, eval e X.env) :: starEach es X.env := by rfl) (hpl : (backTo pos (starEach es X.env)).any (·.1) = false := by rfl) :
    PE X (.Call (.Name x p) (e :: es) [] pos) (tMakeW C sp E t) := by
  refine ⟨fun pins s σ H Q I h => ?_⟩
  refine wpAny_Call_Name_kw (ld_glob I hg hm ?_ hdb)
  refine PySem.W.callWith_K (h₀ := X.base) I.ok.mod.kin M.kp (thn (ha.run pos pins s σ H _ I h) fun us s1 ⟨vs, H1, I1, r, q⟩ => ⟨I1.kIn, ?_⟩) he hpl
  have hq := q (s1.heap.objs.size + 1) s1.heap.objs.size (I1.hok.fresh (Nat.le_succ _)) (I1.hok.fresh (Nat.le_refl _)) (Nat.ne_of_lt (Nat.lt_succ_self _))
  have I2 := Inv.made (C := C) I1
  have r2 : Vals (V.ref (s1.heap.objs.size + 1) :: vs) (Value.ref (s1.heap.objs.size + 1) :: us) := .cons rfl r
  have hl : (Value.ref (s1.heap.objs.size + 1) :: us).length = ps.length := by
    rw [← r2.length]
    exact F.len _ _ _ _ hq
  refine wpAny_call (make_map (f := f) I1.kIn M.makes M.init (beq_iff_eq.mp M.fn) (codeAny_mono (F.run _ X.stack _ _ ⟨Value.ref (s1.heap.objs.size + 1) :: us, []⟩ (Value.ref (s1.heap.objs.size + 1) :: us) _ _ (E σ) (hr.make C us [])
    (I2.env0.make C us []) (by
      have := hb _ (Value.ref (s1.heap.objs.size + 1) :: us) I2.kIn (by rw [List.append_nil]; exact hl)
      rw [List.append_nil] at this
      exact this) r2 hq) fun r s2 hq2 => ?_))
  cases r with
  | error er => exact hx σ pins _ _ er s2 I2 hq2
  | ok fl =>
    cases fl with
    | ret u =>
      obtain ⟨v, H3, I3, rv, ev, q3⟩ := I2.after hq2
      subst ev
      exact ⟨rv, ⟨V.ref (s1.heap.objs.size + 1), H3, I3, rfl, q3⟩⟩
    | next => exact False.elim hq2
    | brk => exact False.elim hq2
    | cont => exact False.elim hq2
end
end L2
set_option Elab.async false
set_option linter.all false
set_option maxRecDepth 100000
set_option maxHeartbeats 4000000
/-! enumerate(t), t a tuple -/
namespace PySem
open PySem.Spec PyProof.Rows
open AutoSeq1 (wpAny_loadPart')
set_option maxHeartbeats 1000000 in
theorem pf_meets_enumT (l : Addr) (its : Array Value) (n : Nat) (dc : Option Addr) (sl : Array (Option Value)) :
    Meets (Builtin.«enumerate.__new__» ⟨[.type "enumerate", .ref l], []⟩) (fun _ R s => s.heap.get? l = some { cls := .type "tuple", dict := dc, data := .seq its n, slots := sl } ∧
      R (.ok (.ret (.ref (s.heap.push { cls := .type "tuple_iterator", data := .fields #[.ref l, .int 0 0] }).objs.size)))
        { s with heap := (s.heap.push { cls := .type "tuple_iterator", data := .fields #[.ref l, .int 0 0] }).push { cls := .type "enumerate", data := .fields #[.none, .bool false, .ref s.heap.objs.size, rawInt 0, .none, .none] } }) :=
  .of_wp fun prog w A R s q => by
    obtain ⟨hp, g, d, tk, os⟩ := s
    obtain ⟨hl, q⟩ := q
    have hsub := sub_enumerate
    have hL : Heap.IsTuple (Shared.heap ⟨hp, g, d, tk, os⟩) l its := ⟨_, hl, rfl, n, rfl⟩
    wp_walk using wpAny_loadPart' hl
    refine wpAny_stack_any fun st => wpAny_pure ?_
    split
    · rename_i c _ _ _ _ _
      cases (c == Value.type "enumerate")
      · wp_walk using wpAny_loadPart' hl, wpAny_pyIter_tuple hL
        exact ⟨_, rfl, q⟩
      · wp_walk using wpAny_loadPart' hl, wpAny_pyIter_tuple hL
        exact ⟨_, rfl, q⟩
    · wp_walk using wpAny_loadPart' hl, wpAny_pyIter_tuple hL
      exact ⟨_, rfl, q⟩
section
variable {prog : Program} {w : World} {A : Around} {E : Value → Shared → Prop} {s : Shared}
theorem pf_call_enumT {l : Addr} {its : Array Value} {Q : Value → Shared → Prop} (hL : s.heap.IsTuple l its)
    (q : ∀ h2, IsEnum h2 (s.heap.objs.size + 1) s.heap.objs.size 0 .none → h2.IsTupleIter s.heap.objs.size l 0 → (∀ b o, s.heap.get? b = some o → h2.get? b = some o) → Q (.ref (s.heap.objs.size + 1)) { s with heap := h2 }) :
    wpAny (model prog w) A (call (.type "enumerate") [.ref l]) Q E s := by
  obtain ⟨⟨c, dc, dt, sl⟩, hl, hc, n, hd⟩ := hL
  have hc1 : c = .type "tuple" := hc
  have hd1 : dt = .seq its n := hd
  subst hc1
  subst hd1
  refine callType_new F.called_enumerate (by decide) (F.typeCall_enumerate_1 _) (F.newCall_enumerate_1 _) (fun ob => F.args_object_init_2 ob _) F.entry_enumerate_new (pf_meets_enumT l its n dc sl) ⟨hl, ?_⟩
  have hz : (s.heap.push { cls := .type "tuple_iterator", data := .fields #[.ref l, .int 0 0] }).objs.size = s.heap.objs.size + 1 := Heap.size_push ..
  show _ ∧ _
  rw [hz]
  have he : IsEnum ((s.heap.push { cls := .type "tuple_iterator", data := .fields #[.ref l, .int 0 0] }).push { cls := .type "enumerate", data := .fields #[.none, .bool false, .ref s.heap.objs.size, rawInt 0, .none, .none] }) (s.heap.objs.size + 1) s.heap.objs.size 0 .none := by
    have e := Heap.get?_push_size (s.heap.push { cls := .type "tuple_iterator", data := .fields #[.ref l, .int 0 0] }) (o := { cls := .type "enumerate", data := .fields #[.none, .bool false, .ref s.heap.objs.size, rawInt 0, .none, .none] }) rfl
    rw [hz] at e
    exact e
  exact ⟨⟨_, he, rfl⟩, q _ he ⟨_, Heap.get?_push_of_some _ (Heap.get?_push_size _ rfl), rfl, rfl⟩ fun b o x => Heap.get?_push_of_some _ (Heap.get?_push_of_some _ x)⟩
end
end PySem
namespace L2
open PySem PySem.Spec PyProof.Rows
/-- the tuple at a, each item in a new pair -/
def IteT (K : PySem.W.Frag) (a : Addr) : It :=
  ⟨fun i H => ∃ (xs : List V) (x : V), SqT K H a xs ∧ xs[i]? = some x, fun i H v H2 => ∃ T x, v = .ref T ∧ H T = none ∧ H2 = upd H T (.tup [.int (i : Nat), x]) ∧ ∀ xs, SqT K H a xs → xs[i]? = some x, fun i H => ∃ xs : List V, SqT K H a xs ∧ xs.length = i⟩
theorem turn_enumT {P : Program} {w : World} {K : PySem.W.Frag} {elts : List Expr} {kk : Nat} {tpos : Pos} (a e it : Addr) (hai : a ≠ it) :
    Turn P w K (.Tuple elts kk tpos) (IteT K a) [e, it] e (fun i h => (∃ old, IsEnum h e it ((i : Nat) : Int) old) ∧ h.IsTupleIter it a i ∧ e ≠ it ∧ e ≠ a) where
  mem := by simp
  obj := fun i h st b hb => by
    obtain ⟨⟨old, he⟩, ⟨o, ho, hc, hd⟩, _⟩ := st
    have eb : b = e ∨ b = it := by simpa using hb
    rcases eb with z | z
    · rw [z]; exact ⟨_, he, fun v q => nomatch q⟩
    · rw [z]; exact ⟨o, ho, fun v q => by rw [hd] at q; cases q⟩
  keep := fun i h h2 st k => let ⟨⟨old, he⟩, hi, hne⟩ := st; ⟨⟨old, k e (by simp) _ he⟩, hi.at fun o q => k it (by simp) o q, hne⟩
  item := by
    intro X hP hw hK hc i pins s σ H E I hf st hg
    subst hP hw hK
    obtain ⟨⟨old, he⟩, hit, hne, hea⟩ := st
    obtain ⟨xs, x, hq, hx⟩ := hg
    obtain ⟨its, rv, p, hz⟩ := I.tuple hq
    obtain ⟨u, hu, ru⟩ := rv.get hx
    have hel : e < s.heap.objs.size := Heap.lt_size he
    have hil : it < s.heap.objs.size := by
      obtain ⟨_, q, _⟩ := hit
      exact Heap.lt_size q
    have hh : X.A.in1.handled = none := by
      have := I.ok.hd hc
      simpa using this
    have hlt : i < its.toArray.size := by
      rw [List.size_toArray]
      exact (List.getElem?_eq_some_iff.mp hu).1
    refine wpAny_pyNext_enum_itemD (Draws.tuple hh it a hai its.toArray) he ⟨hit, p⟩ hlt hne (by simp [hne, hea]) fun y h2 tk hy ho hst hT hsz hk => ?_
    have hy2 : y = u := by
      have e1 : its[i]? = some y := by simpa using hy
      rw [hu] at e1
      exact (Option.some.inj e1).symm
    subst hy2
    refine ⟨_, rfl, wpAny_letOwnedTupleGo_enum (s := { s with heap := h2, toks := tk + 1 }) ho fun h3 he3 sb => ?_⟩
    have hT2 : h3.get? s.heap.objs.size = some { cls := .type "tuple", data := .seq #[.int i tk, y] } := (sb.2 _ (Nat.ne_of_gt hel)).trans hT
    have new : ObjOk X.prog X.w (upd H s.heap.objs.size (.tup [.int (i : Nat), x])) h3 s.heap.objs.size (.tup [.int (i : Nat), x]) :=
      ⟨by show 2 ≤ sizeLine; decide, [.int i tk, y], .cons ⟨_, rfl⟩ (.cons ru .nil), ⟨_, hT2, rfl, _, rfl⟩⟩
    have I1 : Inv X pins σ (upd H s.heap.objs.size (.tup [.int (i : Nat), x])) { s with heap := h3, toks := tk + 1 } :=
      I.turnedNew (ch := [e, it]) (fun b ob hb q => (sb.2 b (fun z => hb (by simp [z]))).trans (hk b ob (fun z => hb (by simp [z])) (fun z => hb (by simp [z])) q)) hf (Nat.le_refl _) new
    refine ⟨.ref s.heap.objs.size, _, I1, rfl, ⟨_, x, rfl, I.hok.fresh (Nat.le_refl _), rfl, fun ys hy => by rw [I.tuple_inj hy hq]; exact hx⟩, ⟨⟨y, ?_⟩, hst.1.at fun o q => (sb.2 it (Ne.symm hne)).trans q, hne, hea⟩, fun b hb => ?_⟩
    · have e1 : ((i + 1 : Nat) : Int) = (i : Int) + 1 := by omega
      rw [e1]
      exact he3
    · have hlb : b < s.heap.objs.size := by
        have eb : b = e ∨ b = it := by simpa using hb
        rcases eb with z | z
        · rw [z]; exact hel
        · rw [z]; exact hil
      rw [upd_ne (Nat.ne_of_lt hlb)]
      exact (hf b hb).1
  done := by
    intro X hP hw hK hc i pins s σ H E I hf st hg
    subst hP hw hK
    obtain ⟨⟨old, he⟩, hit, hne, hea⟩ := st
    obtain ⟨xs, hq, hx⟩ := hg
    obtain ⟨its, rv, p, hz⟩ := I.tuple hq
    obtain ⟨f0, f1, f2, f3, f4, f5⟩ := hf it (by simp)
    have hh : X.A.in1.handled = none := by
      have := I.ok.hd hc
      simpa using this
    have hl : i = its.toArray.size := by
      rw [List.size_toArray, ← rv.length]
      exact hx.symm
    refine wpAny_pyNext_enum_endD (Draws.tuple hh it a hai its.toArray) he ?_ fun h2 eb => ⟨rfl, I.turned (t' := s.toks) (fun b o hb q => eb b o hb q) f0 f1 f3 f4 f5⟩
    rw [← hl]
    exact ⟨hit, p⟩
  self := fun A i s Q E st q => let ⟨⟨_, he⟩, _⟩ := st; wpAny_pyIter_enum he q
def iEnumT (K : PySem.W.Frag) (ta : TA) : TI := fun σ H R => ta σ H fun vs H1 => ∃ a xs, vs = [.ref a] ∧ SqT K H1 a xs ∧ R (IteT K a) H1
theorem pi_enumT {X : Cx} {e : Expr} {ta : TA} {p pos tpos : Pos} {elts : List Expr} {kk : Nat} (hg : Gl X "enumerate") (hm : X.mg "enumerate" = none) (ha : PA X [e] ta) (hs : starEach [e] X.env = [(false, eval e X.env)] := by rfl) :
    PI X (.Tuple elts kk tpos) (.Call (.Name "enumerate" p) [e] [] pos) (iEnumT X.K ta) := by
  refine ⟨fun pins s σ H R I h => ?_⟩
  refine Call_ (ld_blt I hg hm boot_enumerate (callWith_type1 (thn (ha.run pos pins s σ H _ I h) fun us s1 ⟨vs, H1, I1, r1, q1⟩ => ?_) hs rfl))
  obtain ⟨a, xs, ex, hq, q⟩ := q1
  subst ex
  cases r1 with
  | cons r rr =>
    cases rr
    cases r
    obtain ⟨its, rv, p', hz⟩ := I1.tuple hq
    have hal : a < s1.heap.objs.size := by
      obtain ⟨o, ho, _⟩ := p'
      exact Heap.lt_size ho
    refine pf_call_enumT p' fun h2 he hit hk => wpAny_pyIter_enum he ?_
    have I2 : Inv X pins σ H1 { s1 with heap := h2 } := I1.kept (t' := s1.toks) hk
    refine ⟨s1.heap.objs.size + 1, [s1.heap.objs.size + 1, s1.heap.objs.size], _, _, H1, rfl, I2, turn_enumT a (s1.heap.objs.size + 1) s1.heap.objs.size (Nat.ne_of_lt hal), ⟨⟨.none, he⟩, hit, Nat.succ_ne_self _, Nat.ne_of_gt (Nat.lt_succ_of_lt hal)⟩, fun b hb => ?_, q⟩
    have eb : b = s1.heap.objs.size + 1 ∨ b = s1.heap.objs.size := by simpa using hb
    have hle : s1.heap.objs.size ≤ b := by
      rcases eb with z | z
      · rw [z]; exact Nat.le_add_right _ _
      · rw [z]; exact Nat.le_refl _
    exact I1.fpOk hle (I1.hok.fresh hle)
theorem walk_enumT {K : PySem.W.Frag} {a : Addr} {xs : List V} : Walk (IteT K a) xs.length (fun H => SqT K H a xs) (YPair (fun i => some (.int (i : Nat))) (fun i => xs[i]?)) := by
  refine ⟨fun i H hi hq => ⟨xs, _, hq, List.getElem?_eq_getElem hi⟩, fun H hq => ⟨xs, hq, rfl⟩, fun i H v H2 hi hq y => ?_⟩
  obtain ⟨T, x, ev, hT, e2, hx⟩ := y
  exact ⟨T, _, x, ev, hT, e2, rfl, hx xs hq⟩
end L2
set_option Elab.async false
set_option linter.all false
set_option maxRecDepth 100000
set_option maxHeartbeats 4000000
/-! == and != by an own __eq__ -/
namespace L2
open PySem PySem.Spec PyProof.Rows
section
variable {X : Cx} {CX : CXT} {n : Nat} {C f : Addr} {fd : FuncData} {ps : List Str} {sp : Sp} {E : XK}
/-- what an own __eq__ answers, two objects of its class -/
def rEqO (C : Addr) (sp : Sp) (E : XK) (g : Bool → Bool) : R2 := fun x y H Q => ∃ a b dx dy fs gs, x = .ref a ∧ y = .ref b ∧ H a = some (.ins C dx fs) ∧ H b = some (.ins C dy gs) ∧ sp [.ref a, .ref b] H (fun v H' => ∃ r, v = .bl r ∧ Q (.bl (g r)) H') E
theorem run_eqO {A : Around} {pins : List (Addr × Obj)} {σ : St} {H : Hp} {s : Shared} {a : Addr} {u : Value} {y : V} {R : Bool → Hp → Prop} {E2 : Value → Shared → Prop} (F : FnOk X.prog X.w X.K X.mg X.base CX n f fd ps sp) (hb : Binds X.K fd ps []) (hr : Room n A) (hfr : A.frames = X.A.frames)
    (hx : ∀ (e : Value) (s' : Shared), CX X.stack H s E e s' → E2 e s') (I : Inv X pins σ H s) (ry : RelV y u) (h : sp [.ref a, y] H (fun v H' => ∃ r, v = .bl r ∧ R r H') E) :
    wpAny (model X.prog X.w) A (call (.ref f) [.ref a, u]) (fun v s' => ∃ r H', v = .bool r ∧ Inv X pins σ H' s' ∧ R r H') E2 s := by
  have e0 : Env0 X.prog X.w X.K X.mg X.base A X.stack s H := by
    have e := I.env0
    exact ⟨by rw [hfr]; exact e.frames, e.mod, e.bs, e.bsz, e.funs, e.frf, e.hok, e.bare⟩
  have hl := F.len _ _ _ _ h
  have r2 : Vals [V.ref a, y] [Value.ref a, u] := .cons rfl (.cons ry .nil)
  refine wpAny_call (codeAny_mono (F.run A X.stack s H ⟨[.ref a, u], []⟩ [.ref a, u] [.ref a, y] _ E hr e0 (by
    have := hb s [.ref a, u] I.kIn (by simpa using hl)
    simpa using this) r2 h) fun r s' hq => ?_)
  cases r with
  | error e => exact hx e s' hq
  | ok fl =>
    cases fl with
    | ret w =>
      obtain ⟨z, H', I', rz, r, ez, q⟩ := I.after hq
      subst ez
      cases rz
      exact ⟨r, H', rfl, I', q⟩
    | next => exact False.elim hq
    | brk => exact False.elim hq
    | cont => exact False.elim hq
theorem op_eqO (F : FnOk X.prog X.w X.K X.mg X.base CX n f fd ps sp) (hs : PySem.W.findIn X.K (.ref C) "__eq__" = some (some (.ref f))) (hf : PySem.W.isFn X.K (.ref f) = true) (hb : Binds X.K fd ps []) (hx : Passes CX X E) (hr : Room n X.A) : OpR X (compareOp .Eq) (rEqO C sp E id) := by
  intro pins s σ H x y v u Q I rx ry h
  obtain ⟨a, b, dx, dy, fs, gs, rfl, rfl, ha, hb', q⟩ := h
  cases rx
  cases ry
  show wpAny (model X.prog X.w) X.A (richCompare .Eq (.ref a) (.ref b)) (EP X pins σ Q) X.xe s
  obtain ⟨mA, J, _⟩ := ins_get I.hok ha
  obtain ⟨mB, J', _⟩ := ins_get I.hok hb'
  obtain ⟨od, J, _⟩ := J.look
  obtain ⟨od', J', _⟩ := J'.look
  obtain ⟨m, hF⟩ := I.fr
  refine PySem.W.cmp_K (op := .Eq) (tb := .ref C) hr.units0 hF I.ok.mod.kin J J'.type (by simp [PySem.W.notFirst]) hs hf ?_
  refine wpAny_mono (run_eqO (A := X.A) (y := .ref b) F hb hr rfl (fun e s' c => hx pins σ H s e s' I c) I rfl q) (fun w s' z => ?_) fun _ _ e => e
  obtain ⟨r, H', rfl, I', q'⟩ := z
  exact ⟨.bl r, H', I', rfl, q'⟩
end
section
open PySem.W
variable {prog : Program} {w : World} {A : Around} {E : Value → Shared → Prop} {s : Shared} {K : Frag} {x C L f : Addr} {h₀ : Heap} {m : Str → Option Value} {ox : Obj} {od : Option Obj} {b : Value}
theorem neBound {args : List Value} {Q : Option Value → Shared → Prop} {M : Model} (X : K.In s.heap) (I : InstAt s.heap x ox C od) (hs : findIn K (.ref C) "__ne__" = some (some (.builtin "object.__ne__")))
    (h : wpAny M A (call (.builtin "object.__ne__") (.ref x :: args)) (fun v => Q (some v)) E s) : wpAny M A (callSpecialIfBound? (.ref x) "__ne__" args) Q E s := by
  simp only [callSpecialIfBound?, bindSpecialIfBound?]
  refine wpAny_holding (wpAny_bind (wpAny_bind (wpAny_bind (I.type.here ((looks_findIn X hs).here ?_)))))
  simp only [F.cmp_object.ne.bind]
  refine wpAny_bind (wpAny_askSetting (wpAny_ite ?_))
  have fin : wpAny M A (call (.builtin "object.__ne__") ([.ref x] ++ args) >>= fun v => pure (some v)) Q E s := wpAny_bind (wpAny_mono h (fun v s' h' => wpAny_pure h') fun _ _ h' => h')
  split
  · exact wpAny_bind (wpAny_pure (wpAny_pure fin))
  · exact wpAny_tryCatch (wpAny_bind (wpAny_pure (wpAny_pure fin)))
theorem checkNe {Q : Unit → Shared → Prop} {M : Model} (X : K.In s.heap) (I : InstAt s.heap x ox C od) (hsub : subIn K (.ref C) (.type "object") = some true) (hq : Q () s) :
    wpAny M A (checkBuiltinCall "object.__ne__" ⟨[.ref x, b], []⟩) Q E s := by
  simp only [checkBuiltinCall, F.cmpKind_ne, F.cmpSplit_ne]
  refine wpAny_bind ?_
  · unfold isInstance
    refine wpAny_bind (I.type.here ((looks_subIn X hsub).here ?_))
    have ha := F.cmpArgs_ne (.ref x) b
    cases hsig : Manifest.signature? "object.__ne__" with
    | none => exact wpAny_pure hq
    | some sig =>
      simp only [argsOk, hsig] at ha
      have h2 : Bind.checkArgs "object.__ne__" sig ⟨[.ref x, b], []⟩ = pure () := ha
      show wpAny M A (Bind.checkArgs "object.__ne__" sig ⟨[.ref x, b], []⟩) Q E _
      rw [h2]; exact wpAny_pure hq
theorem ne_K {Q : Value → Shared → Prop} (hu : A.units + 1 < cLine) (F0 : Fr h₀ L s.heap m) (X₀ : K.In h₀) (I : InstAt s.heap x ox C od) (hb : Looks (model prog w) s.heap (typeOf b) (.ref C))
    (hs : findIn K (.ref C) "__ne__" = some (some (.builtin "object.__ne__"))) (hsub : subIn K (.ref C) (.type "object") = some true) (he : findIn K (.ref C) "__eq__" = some (some (.ref f))) (hf : isFn K (.ref f) = true)
    (h : wpAny (model prog w) A.in1 (call (.ref f) [.ref x, b]) (fun v s' => ∃ r, v = .bool r ∧ Q (.bool (!r)) s') E s) : wpAny (model prog w) A (richCompare .NotEq (.ref x) b) Q E s := by
  have X := X₀.keeps F0.keep
  have one : wpAny (model prog w) A (tryCompare (.ref x) "__ne__" b) (fun r s' => ∃ v, r = some v ∧ Q v s') E s := by
    unfold tryCompare
    refine wpAny_bind (neBound X I hs (wpAny_call (codeAny_call_builtin F.cmp_object.ne.plain F.cmpEntry_ne (checkNe X I hsub ?_))))
    unfold Builtin.«object.__ne__»
    repeat (first
      | with_reducible refine wpAny_cRoomFor (A := A.in1) hu ?_
      | (refine wpAny_bind (m := callSpecialIfBound? (.ref x) (Str.ofString "__eq__") [b])
          (ifBound_K X I he hf (wpAny_mono h (fun r s' hr => by
            obtain ⟨r, rfl, hq⟩ := hr
            repeat (first | exact wpAny_pure ⟨_, rfl, hq⟩ | exact wpAny_pure (wpAny_pure ⟨_, rfl, hq⟩) | (refine wpAny_bind (m := truthy (.bool _)) (wpAny_truthy_bool ?_)) | wp_step)) fun _ _ e => e)))
      | wp_step)
  unfold richCompare
  simp only [oneThing_ref]
  refine wpAny_holding (wpAny_bind (wpAny_cRoomFor (Nat.lt_of_succ_lt hu) ?_))
  refine wpAny_bind (I.type.here (wpAny_bind (hb.here ?_)))
  rw [cmpInfo_NotEq]
  dsimp only
  rw [show (Value.ref C != Value.ref C) = false from by simp]
  simp only [Bool.false_eq_true, if_false]
  refine wpAny_bind (wpAny_pure ?_)
  simp only [Bool.false_eq_true, if_false]
  refine wpAny_bind (wpAny_mono one (fun r s' z => ?_) fun _ _ e => e)
  obtain ⟨v, rfl, hq⟩ := z
  exact wpAny_pure hq
end
section
variable {X : Cx} {CX : CXT} {n : Nat} {C f : Addr} {fd : FuncData} {ps : List Str} {sp : Sp} {E : XK}
theorem op_neO (F : FnOk X.prog X.w X.K X.mg X.base CX n f fd ps sp) (hs : PySem.W.findIn X.K (.ref C) "__eq__" = some (some (.ref f))) (hf : PySem.W.isFn X.K (.ref f) = true)
    (hn : PySem.W.findIn X.K (.ref C) "__ne__" = some (some (.builtin "object.__ne__"))) (hsub : PySem.W.subIn X.K (.ref C) (.type "object") = some true)
    (hb : Binds X.K fd ps []) (hx : Passes CX X E) (hr : Room (n + 1) X.A) : OpR X (compareOp .NotEq) (rEqO C sp E not) := by
  intro pins s σ H x y v u Q I rx ry h
  obtain ⟨a, b, dx, dy, fs, gs, rfl, rfl, ha, hb', q⟩ := h
  cases rx
  cases ry
  show wpAny (model X.prog X.w) X.A (richCompare .NotEq (.ref a) (.ref b)) (EP X pins σ Q) X.xe s
  obtain ⟨mA, J, _⟩ := ins_get I.hok ha
  obtain ⟨mB, J', _⟩ := ins_get I.hok hb'
  obtain ⟨od, J, _⟩ := J.look
  obtain ⟨od', J', _⟩ := J'.look
  obtain ⟨m, hF⟩ := I.fr
  refine ne_K (by have := hr.un; omega) hF I.ok.mod.kin J J'.type hn hsub hs hf ?_
  refine wpAny_mono (run_eqO (A := X.A.in1) (y := .ref b) F hb hr.in1 rfl (fun e s' c => hx pins σ H s e s' I c) I rfl q) (fun w s' z => ?_) fun _ _ e => e
  obtain ⟨r, H', rfl, I', q'⟩ := z
  exact ⟨r, rfl, .bl (!r), H', I', rfl, q'⟩
end
theorem decI_str (a : Str) (t : Tok) (x C dx : Addr) : Meets (Builtin.«str.__eq__» ⟨[.str a t, .ref x], []⟩) (fun _ R s => s.heap.get? x = some { cls := .ref C, dict := some dx, data := .plain, slots := #[] } ∧ R (.ok (.ret .notImplemented)) s) :=
  .of_wp fun prog w A R s h => by obtain ⟨hp, g, d, tk, os⟩ := s; obtain ⟨hl, h⟩ := h; wp_walk using wpAny_loadPart' hl; exact ⟨_, rfl, h⟩
theorem decI_int (a : Int) (t : Tok) (x C dx : Addr) : Meets (Builtin.«int.__eq__» ⟨[.int a t, .ref x], []⟩) (fun _ R s => s.heap.get? x = some { cls := .ref C, dict := some dx, data := .plain, slots := #[] } ∧ R (.ok (.ret .notImplemented)) s) :=
  .of_wp fun prog w A R s h => by obtain ⟨hp, g, d, tk, os⟩ := s; obtain ⟨hl, h⟩ := h; wp_walk using wpAny_loadPart' hl; exact ⟨_, rfl, h⟩
section
open PySem.W
variable {prog : Program} {w : World} {A : Around} {E : Value → Shared → Prop} {s : Shared} {K : Frag} {x C f : Addr} {ox : Obj} {od : Option Obj} {u : Value} {T : String}
theorem decI_list {dd : Option Addr} {sl : Array (Option Value)} {items : Array Value} {n : Nat} {l : Addr} {Q : Fin → Shared → Prop} {M : Model} (X : K.In s.heap) (I : InstAt s.heap x ox C od) (hm : subIn K (.ref C) (.type "list") = some false) (hq : Q (.done (.ret .notImplemented)) s) :
    wpAny M A (Builtin.«list.__eq__» ⟨[.ref l, .ref x], []⟩) Q E s := by
  unfold Builtin.«list.__eq__»
  repeat (first | (refine wpAny_bind (m := isInstance (.ref x) (.type "list")) ?_; unfold isInstance; refine wpAny_bind (I.type.here ((looks_subIn X hm).here ?_))) | wp_step)
  all_goals exact hq
theorem rc_own {Q : Value → Shared → Prop} (hu : A.units < cLine) (X : K.In s.heap) (I : InstAt s.heap x ox C od) (ht : Looks (model prog w) s.heap (typeOf u) (.type T)) (hm : subIn K (.ref C) (.type T) = some false)
    (dec : wpAny (model prog w) A (tryCompare u "__eq__" (.ref x)) (fun r s' => r = none ∧ s' = s) E s) (hs : findIn K (.ref C) "__eq__" = some (some (.ref f))) (hf : isFn K (.ref f) = true)
    (ho : oneThing? .Eq u (.ref x) = none) (h : wpAny (model prog w) A (call (.ref f) [.ref x, u]) (PySem.W.CmpBack Q) E s) : wpAny (model prog w) A (richCompare .Eq u (.ref x)) Q E s := by
  have one : wpAny (model prog w) A (tryCompare (.ref x) "__eq__" u) (fun r s' => ∃ v, r = some v ∧ Q v s') E s := by
    unfold tryCompare
    refine wpAny_bind (ifBound_K X I hs hf (wpAny_mono h (fun v s' hv => ?_) fun _ _ e => e))
    cases v <;> first | exact hv.elim | exact wpAny_pure ⟨_, rfl, hv⟩
  simp only [richCompare, cmpInfo_Eq, ho]
  refine wpAny_holding (wpAny_bind (wpAny_cRoomFor hu ?_))
  refine wpAny_bind (ht.here (wpAny_bind (I.type.here ?_)))
  split
  · refine wpAny_bind ((looks_subIn X hm).here ?_)
    simp only [Bool.false_eq_true, if_false, Bool.not_false, if_true]
    refine wpAny_bind (m := tryCompare u _ (.ref x)) (wpAny_mono dec (fun r s1 z => ?_) fun _ _ e => e)
    obtain ⟨rfl, rfl⟩ := z
    refine wpAny_bind (m := tryCompare (.ref x) _ u) (wpAny_mono one (fun r s2 z => ?_) fun _ _ e => e)
    obtain ⟨v, rfl, hq⟩ := z
    exact wpAny_pure hq
  · rename_i q
    exact absurd (by simp) q
end
section
open PySem.MeetsSeq PySem.AutoSeq1
variable {prog : Program} {w : World} {A : Around} {E : Value → Shared → Prop} {R : Result → Shared → Prop}
/-- at each turn the list is read anew, the item unlike x -/
def InI (prog : Program) (w : World) (A : Around) (E : Value → Shared → Prop) (l : Addr) (x : Value) (N : Nat) (I : Shared → Prop) : Prop :=
  ∀ s, I s → ∃ (items : Array Value) (n : Nat) (sl : Array (Option Value)), s.heap.get? l = some { cls := .type "list", dict := none, data := .seq items n, slots := sl } ∧ items.size = N ∧
    ∀ (i : Nat) (h1 : i < items.size), wpAny (model prog w) A.in1 (eqBool items[i] x) (fun r s' => r = false ∧ I s') E s
theorem in_loopG (l : Addr) (x : Value) (N : Nat) (I : Shared → Prop) (hl : InI prog w A (fun e s' => R (.error e) s') l x N I)
    (fin : ∀ s, I s → R (.ok (.ret (.bool false))) s) (k : Nat) :
    ∀ i : Nat, N - i = k → i ≤ N → ∀ s, I s →
      wpAny (model prog w) A.in1 (Builtin.«list.__contains__.loop» ⟨[.ref l, x, rawInt i], []⟩) (GQ.FinOf prog w A R) (fun e s' => R (.error e) s') s := by
  induction k with
  | zero =>
    intro i hk hi s h
    obtain ⟨items, n, sl, hl1, hs1, _⟩ := hl _ h
    have hR := fin s h
    obtain ⟨hp, g, d, tk, os⟩ := s
    wp_walk using wpAny_loadPart' hl1
    have hi1 : items[((i : Nat) : Int).toNat]? = none := by simp; omega
    rw [hi1]
    wp_walk
    exact hR
  | succ k ih =>
    intro i hk hi s h
    obtain ⟨items, n, sl, hl1, hs1, turn⟩ := hl _ h
    have hlt : i < items.size := by omega
    have ht := turn i hlt
    obtain ⟨hp, g, d, tk, os⟩ := s
    wp_walk using wpAny_loadPart' hl1
    have hi1 : items[((i : Nat) : Int).toNat]? = some items[i] := by simp [hlt]
    have hc : ((i : Int) + 1) = ((i + 1 : Nat) : Int) := by omega
    rw [hi1]
    refine wpAny_bind (wpAny_mono ht (fun r s2 h2 => ?_) fun _ _ x => x)
    obtain ⟨hr, h2⟩ := h2
    subst hr
    have hrec := ih (i + 1) (by omega) (by omega) s2 h2
    obtain ⟨hp2, g2, d2, tk2, os2⟩ := s2
    wp_walk
    rw [hc]
    exact ⟨plainId_quiet plain_contains_loop _, codeAny_builtin entry_contains_loop (by
      rw [Around.under_plainId plain_contains_loop _]
      exact hrec)⟩
theorem in_listG (l : Addr) (x : Value) (N : Nat) (I : Shared → Prop) (hl : InI prog w A (fun e s' => R (.error e) s') l x N I)
    (fin : ∀ s, I s → R (.ok (.ret (.bool false))) s) {s : Shared} (h : I s) :
    wpAny (model prog w) A.in1 (Builtin.«list.__contains__» ⟨[.ref l, x], []⟩) (GQ.FinOf prog w A R) (fun e s' => R (.error e) s') s := by
  have hrec := in_loopG (A := A) (R := R) l x N I hl fin _ 0 rfl (Nat.zero_le _) s h
  obtain ⟨hp, g, d, tk, os⟩ := s
  wp_walk
  exact ⟨plainId_quiet plain_contains_loop _, codeAny_builtin entry_contains_loop (by
    rw [Around.under_plainId plain_contains_loop _]
    exact hrec)⟩
end
section
variable {X : Cx} {CX : CXT} {n : Nat} {C f : Addr} {fd : FuncData} {ps : List Str} {sp : Sp} {E : XK}
/-- a text, a number, None or a list -/
def Odd (K : PySem.W.Frag) (H : Hp) : V → Prop
  | .str _ => True
  | .int _ => True
  | .non => True
  | .ref p => ∃ xs, H p = some (.lst xs)
  | _ => False
theorem eqB {A : Around} {s : Shared} {prog : Program} {w : World} {E2 : Value → Shared → Prop} {a : Addr} {u : Value} {Q : Bool → Shared → Prop} (hne : (u == .ref a) = false) (hnf : ∀ b t, u ≠ .float b t) (h : wpAny (model prog w) A (richCompare .Eq u (.ref a)) (fun v s' => ∃ r, v = .bool r ∧ Q r s') E2 s) : wpAny (model prog w) A (eqBool u (.ref a)) Q E2 s := by
  unfold eqBool
  refine wpAny_holding ?_
  refine wpAny_ite_split (fun hab => by rw [hne] at hab; cases hab) (fun _ => ?_)
  have fin : wpAny (model prog w) A (do let r ← richCompare .Eq u (.ref a); truthOfDropped r) Q E2 s := by
    refine wpAny_bind (wpAny_mono h (fun v s' hv => ?_) fun _ _ x => x)
    obtain ⟨r, rfl, q⟩ := hv
    exact wpAny_truthy_bool q
  cases u <;> first | exact fin | exact absurd rfl (hnf _ _)
theorem eq_odd {A : Around} {pins : List (Addr × Obj)} {σ : St} {H : Hp} {s : Shared} {a dx : Addr} {fs : List (Str × V)} {z : V} {u : Value} (G : FnOk X.prog X.w X.K X.mg X.base CX n f fd ps sp) (hs : PySem.W.findIn X.K (.ref C) "__eq__" = some (some (.ref f))) (hf : PySem.W.isFn X.K (.ref f) = true)
    (m1 : PySem.W.subIn X.K (.ref C) (.type "str") = some false) (m2 : PySem.W.subIn X.K (.ref C) (.type "int") = some false) (m3 : PySem.W.subIn X.K (.ref C) (.type "NoneType") = some false) (m4 : PySem.W.subIn X.K (.ref C) (.type "list") = some false)
    (hb : Binds X.K fd ps []) (hx : Passes CX X E) (hr : Room n A) (hfr : A.frames = X.A.frames) (I : Inv X pins σ H s) (rz : RelV z u) (ha : H a = some (.ins C dx fs)) (o : Odd X.K H z) (q : sp [.ref a, z] H (fun v H' => ∃ r, v = .bl r ∧ r = false ∧ H' = H) E) :
    wpAny (model X.prog X.w) A (eqBool u (.ref a)) (fun r s' => r = false ∧ Inv X pins σ H s') X.xe s := by
  obtain ⟨mA, J0, _⟩ := ins_get I.hok ha
  obtain ⟨od, J, _⟩ := J0.look
  have last : ∀ u, RelV z u → wpAny (model X.prog X.w) A (call (.ref f) [.ref a, u]) (PySem.W.CmpBack fun v s' => ∃ r, v = .bool r ∧ r = false ∧ Inv X pins σ H s') X.xe s := fun u ru => by
    refine wpAny_mono (run_eqO (A := A) (y := z) G hb hr hfr (fun e s' c => hx pins σ H s e s' I c) I ru q) (fun w s' t => ?_) fun _ _ e => e
    obtain ⟨r, H', rfl, I', rfl, rfl⟩ := t
    exact ⟨false, rfl, rfl, I'⟩
  cases z with
  | str k =>
    obtain ⟨t, rfl⟩ := id rz
    refine eqB rfl nofun (rc_own (T := "str") hr.units0 I.kIn J (fun A' Q' E' s' k' h' => wpAny_pure h') m1 ?_ hs hf rfl (last _ rz))
    exact wpAny_tryCompare_declines (show s.TypeIs (.str k t) "str" from rfl) F.slot_str_eq (call_meets F.slot_str_eq rfl F.entry_str_eq (F.args_str_eq_2 _ _) (decI_str k t a C dx) ⟨J0.obj, rfl, rfl, rfl⟩)
  | int k =>
    obtain ⟨t, rfl⟩ := id rz
    refine eqB rfl nofun (rc_own (T := "int") hr.units0 I.kIn J (fun A' Q' E' s' k' h' => wpAny_pure h') m2 ?_ hs hf rfl (last _ rz))
    exact wpAny_tryCompare_declines (show s.TypeIs (.int k t) "int" from rfl) F.slot_int_eq (call_meets F.slot_int_eq rfl F.entry_int_eq (F.args_int_eq_2 _ _) (decI_int k t a C dx) ⟨J0.obj, rfl, rfl, rfl⟩)
  | non =>
    obtain rfl : u = .none := id rz
    refine eqB rfl nofun (rc_own (T := "NoneType") hr.units0 I.kIn J (fun A' Q' E' s' k' h' => wpAny_pure h') m3 ?_ hs hf rfl (last _ rz))
    exact wpAny_tryCompare_declines (show s.TypeIs .none "NoneType" from rfl) F.slot_NoneType_eq_refl (call_gives F.slot_NoneType_eq_refl rfl F.entry_NoneType_eq (F.args_NoneType_eq_2 _ _) (PySem.SeqAt.NoneType___eq___none_ref_0 a) ⟨rfl, rfl, rfl⟩)
  | ref p =>
    obtain rfl : u = .ref p := id rz
    obtain ⟨xs, hp⟩ := o
    have ne : p ≠ a := fun e => by rw [e, ha] at hp; cases hp
    obtain ⟨its, rv, hl, _⟩ := I.list (.inl (.inl hp))
    obtain ⟨ol, ho, hc, _⟩ := hl.isList
    have hT : s.TypeIs (.ref p) "list" := ⟨ol, ho, hc⟩
    refine eqB (by simp [ne]) nofun (rc_own (T := "list") hr.units0 I.kIn J (fun A' Q' E' s' k' h' => wpAny_typeOf (show s'.TypeIs (.ref p) "list" from ⟨ol, k' _ _ ho, hc⟩) h') m4 ?_ hs hf rfl (last _ rz))
    refine wpAny_tryCompare_declines hT F.slot_list_eq (GQ.call_here F.slot_list_eq hT F.entry_list_eq (F.args_list_eq_2 _ _) (decI_list (items := #[]) (n := 0) (dd := none) (sl := #[]) I.kIn J m4 ?_))
    exact ⟨rfl, rfl, rfl⟩
  | _ => exact o.elim
/-- an object with an own __eq__ among odd things: not there -/
def rInO (K : PySem.W.Frag) (C : Addr) (sp : Sp) (E : XK) : R2 := fun x y H Q => ∃ a dx fs p xs, x = .ref a ∧ y = .ref p ∧ H a = some (.ins C dx fs) ∧ H p = some (.lst xs) ∧
  (∀ z ∈ xs, Odd K H z ∧ sp [.ref a, z] H (fun v H' => ∃ r, v = .bl r ∧ r = false ∧ H' = H) E) ∧ Q (.bl false) H
theorem op_inO (G : FnOk X.prog X.w X.K X.mg X.base CX n f fd ps sp) (hs : PySem.W.findIn X.K (.ref C) "__eq__" = some (some (.ref f))) (hf : PySem.W.isFn X.K (.ref f) = true)
    (m1 : PySem.W.subIn X.K (.ref C) (.type "str") = some false) (m2 : PySem.W.subIn X.K (.ref C) (.type "int") = some false) (m3 : PySem.W.subIn X.K (.ref C) (.type "NoneType") = some false) (m4 : PySem.W.subIn X.K (.ref C) (.type "list") = some false)
    (hb : Binds X.K fd ps []) (hx : Passes CX X E) (hr : Room (n + 1) X.A) : OpR X (compareOp .In) (rInO X.K C sp E) := by
  intro pins s σ H x y v u Q I rx ry h
  obtain ⟨a, dx, fs, p, xs, rfl, rfl, ha, hp, ht, q⟩ := h
  cases rx
  cases ry
  have hl : InI X.prog X.w X.A X.xe p (.ref a) xs.length (fun s' => Inv X pins σ H s') := fun s' I' => by
    obtain ⟨its, rv, hl, _⟩ := I'.list (.inl (.inl hp))
    obtain ⟨⟨c0, d0, da0, sl0⟩, n0, hl, e1, e2, e3⟩ := hl
    simp only at e1 e2 e3
    subst e1 e2 e3
    refine ⟨its.toArray, n0, sl0, ?_, by simp [rv.length], fun i h1 => ?_⟩
    · exact hl
    · have k1 : i < xs.length := by rw [rv.length]; simpa using h1
      have g1 : its[i]? = some its.toArray[i] := by
        have h1' : i < its.length := by simpa using h1
        rw [List.getElem?_eq_getElem h1'] <;> simp
      obtain ⟨u, hu, ru⟩ := rv.get (List.getElem?_eq_getElem k1)
      rw [g1] at hu
      rw [Option.some.inj hu]
      obtain ⟨o, e⟩ := ht _ (List.getElem_mem k1)
      exact eq_odd G hs hf m1 m2 m3 m4 hb hx hr.in1 rfl I' ru ha o e
  obtain ⟨items, n0, sl0, hl0, _, _⟩ := hl s I
  have hT : s.TypeIs (.ref p) "list" := ⟨_, hl0, rfl⟩
  show wpAny (model X.prog X.w) X.A (compareOp .In (.ref a) (.ref p)) _ _ _
  unfold compareOp
  refine wpAny_bind (wpAny_contains_slot hT F.slot_list_contains (GQ.call_here F.slot_list_contains hT F.entry_list_contains (F.args_list_contains_2 _ _) (in_listG (R := wants (fun r s' => wpAny (model X.prog X.w) X.A (truthy r) _ X.xe s') X.xe) p (.ref a) xs.length _ hl (fun s' I' => ?_) I)))
  exact wpAny_truthy_bool (wpAny_pure ⟨.bl false, H, I', rfl, q⟩)
end
/-- int(truth) -/
def rIntB : List V → Hp → VK → Prop := fun xs H Q => ∃ b : Bool, xs = [.bl b] ∧ Q (.int (if b then 1 else 0)) H
theorem call_intB {X : Cx} : CallR X (.type "int") rIntB := by
  intro pins s σ H xs us Q I r h
  obtain ⟨b, rfl, q⟩ := h
  cases r with
  | cons r1 r2 =>
    cases r2
    cases r1
    exact call_int_bool ⟨.int (if b then 1 else 0), H, I.tok _, ⟨_, rfl⟩, q⟩
end L2
set_option Elab.async false
set_option linter.all false
set_option maxRecDepth 100000
set_option maxHeartbeats 4000000
/-! str(o) by an own __str__, C(.., k = v), t[::-1] -/
namespace L2
open PySem PySem.Spec PyProof.Rows
/-- a class with an own __eq__: != by object's, no kin of the plain types, isinstance -/
structure OwnC (K : PySem.W.Frag) (C : Addr) : Prop where
  ne : PySem.W.findIn K (.ref C) "__ne__" = some (some (.builtin "object.__ne__"))
  ob : PySem.W.subIn K (.ref C) (.type "object") = some true
  m1 : PySem.W.subIn K (.ref C) (.type "str") = some false
  m2 : PySem.W.subIn K (.ref C) (.type "int") = some false
  m3 : PySem.W.subIn K (.ref C) (.type "NoneType") = some false
  m4 : PySem.W.subIn K (.ref C) (.type "list") = some false
  ha : PySem.W.findIn K (.ref C) "__class__" = some (some (.builtin "object.__class__"))
  hn : PySem.W.specialIn K (.builtin "object.__class__") "__get__" = some (some (.builtin "getset_descriptor.__get__"))
  ht : PySem.W.takesIn K (.builtin "object.__class__") = some true
  hm : PySem.W.mroIn K C (.type "object") = some true
  k1 : PySem.W.kitOne K (.type "str") (.ref C) = some false
  k2 : PySem.W.kitOne K (.type "int") (.ref C) = some false
  k3 : PySem.W.kitOne K (.type "NoneType") (.ref C) = some false
  k4 : PySem.W.kitOne K (.type "list") (.ref C) = some false
section
variable {X : Cx} {CX : CXT} {n : Nat} {C f : Addr} {fd : FuncData} {ps : List Str} {sp : Sp} {E : XK}
def rStrO (C : Addr) (sp : Sp) (E : XK) : List V → Hp → VK → Prop := fun xs H Q => ∃ a dx fs, xs = [V.ref a] ∧ H a = some (.ins C dx fs) ∧ sp [.ref a] H (fun v H2 => ∃ y : Str, v = .str y ∧ Q (.str y) H2) E
theorem call_strO (hm : Meth X.K C "__str__" f) (F : FnOk X.prog X.w X.K X.mg X.base CX n f fd ps sp) (hr : Room (n + 2) X.A) (hb : Binds X.K fd ps []) (hx : Passes CX X E) : CallR X (.type "str") (rStrO C sp E) := by
  intro pins s σ H xs us Q I r h
  obtain ⟨a, dx, fs, rfl, ea, q⟩ := h
  obtain ⟨u, rfl, ru⟩ := vals1 r
  cases ru
  obtain ⟨mA, O, _, _, _, _⟩ := ins_get I.hok ea
  obtain ⟨od, J, _⟩ := O.look
  have hr2 : Room n X.A.in1.in1 := (hr.in1).in1
  have hl : ([Value.ref a] ++ ([] : List Value)).length = ps.length := by
    have := F.len _ _ _ _ q
    simpa using this
  refine PySem.W.kso_call hr2.units0 I.kIn J hm.at_ hm.fn (wpAny_call (codeAny_mono (F.run X.A.in1.in1 X.stack s H ⟨[.ref a], []⟩ [.ref a] [.ref a] _ E hr2 I.env0.in1.in1 (hb s [.ref a] I.kIn hl) (.cons rfl .nil) q) fun r s' hq => ?_))
  cases r with
  | error e => exact hx pins σ H s e s' I hq
  | ok fl =>
    cases fl with
    | ret u =>
      obtain ⟨v, H', I', rv, y, rfl, q'⟩ := I.after hq
      obtain ⟨t, rfl⟩ := rv
      exact ⟨.str y, H', I', ⟨_, rfl⟩, q'⟩
    | next => exact False.elim hq
    | brk => exact False.elim hq
    | cont => exact False.elim hq
theorem KBinds.kn {K : PySem.W.Frag} {fd : FuncData} {ps ks : List Str} {n : Nat} (h : KBinds K fd ps ks (kbGn n) (kbVn n)) (hp : n + ks.length = ps.length) : KBn K fd ps n ks (kbGn n) (kbVn n) :=
  ⟨fun s us ws X l1 l2 => h.to s us ws X (by rw [show kbGn n us ws = us ++ ws from if_pos l1, List.length_append, l1, l2, hp]), h.rel⟩
end
section
open HT
variable {prog : Program} {w : World} {A : Around} {E : Value → Shared → Prop} {s : Shared}
theorem sliceApplied_rev {sl : Addr} {vs : Value} {n : Nat} {Q : Int × Int × Nat → Shared → Prop} (hs : s.heap.IsSliceOf sl .none .none vs) (pv : IsPart vs (some (-1)))
    (h : Q (((n : Nat) : Int) - 1, -1, n) s) : wpAny (model prog w) A (Builtin.Slice.sliceApplied (.ref sl) (pure (n : Int))) Q E s := by
  obtain ⟨os, hos, hcs, hds⟩ := id hs
  unfold Builtin.Slice.sliceApplied Builtin.Slice.sliceFields
  refine wpAny_bind (wpAny_bind (wpAny_field hos hds (x := .none) rfl (wpAny_bind (wpAny_field hos hds (x := .none) rfl (wpAny_bind (wpAny_field hos hds (x := vs) rfl (wpAny_pure ?_)))))))
  refine wpAny_bind (slicePart_ pv ?_)
  show wpAny _ _ (if ((-1 : Int) == 0) = true then _ else _) _ _ s
  rw [if_neg (by decide)]
  refine wpAny_bind (slicePart_none (wpAny_bind (slicePart_none (wpAny_bind (wpAny_pure ?_)))))
  show wpAny _ _ (pure (((n : Nat) : Int) - 1, (-1 : Int), Builtin.Slice.slicePlaces (((n : Nat) : Int) - 1) (-1) (-1))) _ _ s
  have e : Builtin.Slice.slicePlaces (((n : Nat) : Int) - 1) (-1) (-1) = n := by
    unfold Builtin.Slice.slicePlaces
    rw [if_neg (by decide)]
    by_cases g : ((n : Nat) : Int) - 1 > -1
    · rw [if_pos g, show (- -1 : Int) = 1 by decide, Int.ediv_one]
      omega
    · rw [if_neg g]
      omega
  rw [e]
  exact wpAny_pure h
theorem fm_congr {α β : Type} {f g : α → Option β} : ∀ {l : List α}, (∀ x ∈ l, f x = g x) → l.filterMap f = l.filterMap g
  | [], _ => rfl
  | x :: r, h => by
    rw [List.filterMap_cons, List.filterMap_cons, h x List.mem_cons_self, fm_congr fun y hy => h y (List.mem_cons_of_mem _ hy)]
theorem pick_rev (xs : Array Value) : ((List.range xs.size).filterMap fun (m : Nat) => xs[(((xs.size : Nat) : Int) - 1 + (m : Int) * -1).toNat]?).toArray = xs.toList.reverse.toArray := by
  have e : (List.range xs.size).filterMap (fun (m : Nat) => xs[(((xs.size : Nat) : Int) - 1 + (m : Int) * -1).toNat]?) = ((List.range xs.size).map fun k => xs.size - 1 - k).filterMap (xs[·]?) := by
    rw [List.filterMap_map]
    refine fm_congr fun m hm => ?_
    have := List.mem_range.mp hm
    have e1 : (((xs.size : Nat) : Int) - 1 + (m : Int) * -1).toNat = xs.size - 1 - m := by omega
    rw [e1] <;> rfl
  rw [e, PySem.W.krv_range, List.filterMap_reverse, PySem.W.krv_all]
theorem getItem_tuple_rev {t sl : Addr} {items : Array Value} {vs : Value} {Q : Value → Shared → Prop} (ht : IsTup s.heap t items) (hs : s.heap.IsSliceOf sl .none .none vs) (pv : IsPart vs (some (-1)))
    (h : Q (.ref s.heap.objs.size) { s with heap := s.heap.push { cls := .type "tuple", data := .seq items.toList.reverse.toArray } })
    (hsz : items.size ≤ sizeLine) : wpAny (model prog w) A (getItem (.ref t) (.ref sl)) Q E s := by
  have htake : sizeOk (.seq items.toList.reverse.toArray) := by
    show items.toList.reverse.toArray.size ≤ sizeLine
    rw [List.size_toArray, List.length_reverse, Array.length_toList]
    exact hsz
  obtain ⟨os, hos, hcs, hds⟩ := id hs
  have hTs : s.TypeIs (.ref sl) "slice" := ⟨os, hos, hcs⟩
  unfold getItem
  try with_reducible refine wpAny_holding ?_
  first | refine wpAny_bind (wpAny_pure ?_) | skip
  refine wpAny_bind (wpAny_sequenceKey ht.typeIs (by decide) ?_)
  refine wpAny_bind (wpAny_callSpecial?_slot (name := Str.ofString "__getitem__") ht.typeIs PyProof.Rows.slot_tuple_getitem
    (wpAny_call_entry PyProof.Rows.slot_tuple_getitem ht.typeIs entry_tuple_getitem ?_ (args_tuple_getitem _ _)))
  show wpAny _ _ (Builtin.Tuple.tupleItemsOf (.ref t) >>= _) _ _ s
  refine wpAny_bind (tupleItemsOf_ ht ?_)
  refine wpAny_bind (wpAny_typeOf hTs ?_)
  rw [if_pos (by decide)]
  refine wpAny_bind (sliceApplied_rev hs pv ?_)
  have hno : ¬ (((((items.size : Nat) : Int) - 1) == 0 && (-1 : Int) == 1 && items.size == items.size) = true) := by
    intro q
    rw [Bool.and_eq_true, Bool.and_eq_true] at q
    have q1 : (-1 : Int) = 1 := eq_of_beq q.1.2
    omega
  show wpAny _ _ (if ((((items.size : Nat) : Int) - 1) == 0 && (-1 : Int) == 1 && items.size == items.size) = true then _ else _) _ _ s
  rw [if_neg hno, pick_rev]
  first
    | exact wpAny_bind (m := Builtin.Tuple.tupleExact _) (wpAny_newObj_type (wpAny_pure ⟨_, rfl, wpAny_pure h⟩) htake)
    | exact wpAny_bind (m := Builtin.Tuple.tupleExact _) (wpAny_newObj_type (wpAny_bind (wpAny_pure (wpAny_pure ⟨_, rfl, wpAny_pure h⟩))) htake)
    | exact wpAny_bind (wpAny_bind (m := Builtin.Tuple.tupleExact _) (wpAny_newObj_type (wpAny_pure (wpAny_pure ⟨_, rfl, wpAny_pure h⟩)) htake))
    | exact wpAny_bind (wpAny_bind (m := Builtin.Tuple.tupleExact _) (wpAny_newObj_type (wpAny_pure ⟨_, rfl, wpAny_pure h⟩) htake))
end
section
variable {X : Cx}
def tRevT (K : PySem.W.Frag) (te : TE) : TE := fun σ H Q => te σ H fun x H1 => ∃ a xs, x = .ref a ∧ SqT K H1 a xs ∧ ∀ p, H1 p = none → Q (.ref p) (upd H1 p (.tup xs.reverse))
theorem pe_revT {e : Expr} {te : TE} {k : Nat} {p1 p2 p3 pos : Pos} (he : PE X e te) : PE X (.Subscript e (.Slice none none (some (.UnaryOp .USub (.Constant (.int 1) k p1) p2)) p3) pos) (tRevT X.K te) := by
  refine ⟨fun pins s σ H Q I h => ?_⟩
  refine Subscript_ (thn (he.run pins s σ H _ I h) fun v s1 ⟨x, H1, I1, r1, q1⟩ => ?_)
  obtain ⟨a, xs, ex, hx, q⟩ := q1
  subst ex
  cases r1
  have hst : PO X (some (.UnaryOp .USub (.Constant (.int 1) k p1) p2)) (tPart (tUn (rU fun i => .int (-i)) (tC (.int 1)))) := po_some (pe_un un_neg pe_int)
  refine wpAny_Slice (thn (po_none.run pins s1 σ H1 (fun o H2 => o = none ∧ H2 = H1) I1 ⟨rfl, rfl⟩) fun vl s2 ⟨l, H2, I2, pl, el, e2⟩ => ?_)
  subst el e2
  refine thn (po_none.run pins s2 σ H2 (fun o H3 => o = none ∧ H3 = H2) I2 ⟨rfl, rfl⟩) fun vu s3 ⟨u, H3, I3, pu, eu, e3⟩ => ?_
  subst eu e3
  refine thn (hst.run pins s3 σ H3 (fun o H4 => o = some (-1) ∧ H4 = H3) I3 ⟨1, rfl, -1, rfl, rfl, rfl⟩) fun vs s4 ⟨o, H4, I4, ps, eo, e4⟩ => ?_
  subst eo e4
  cases pl
  cases pu
  have I5 : Inv X pins σ H4 { s4 with heap := s4.heap.push { cls := .type "slice", data := .fields #[.none, .none, vs] } } := I4.kept (t' := s4.toks) fun b ob q => Heap.get?_push_of_some _ q
  obtain ⟨its, r, ht, hz⟩ := I5.tuple hx
  have hlen := r.length
  show wpAny (model X.prog X.w) X.A (subscriptTail e (.Slice none none (some (.UnaryOp .USub (.Constant (.int 1) k p1) p2)) p3) (.ref a) (.ref s4.heap.objs.size)) (EP X pins σ Q) X.xe { s4 with heap := s4.heap.push { cls := .type "slice", data := .fields #[.none, .none, vs] } }
  refine tail_any (ops := [.ref a, .ref s4.heap.objs.size]) ht.typeIs (PyProof.Rows.slot_tuple_getitem.lookup) ?_ (by with_unfolding_all rfl)
  refine getItem_tuple_rev ht (Heap.IsSliceOf.new _ .none .none vs) ps ?_ (by rw [List.size_toArray]; omega)
  refine ⟨.ref _, _, I5.laid (t' := s4.toks) (o := .tup xs.reverse) (fun b ob q => Heap.get?_push_of_some _ q) (Nat.le_refl _) ?_, rfl, q _ (I5.hok.fresh (Nat.le_refl _))⟩
  exact ⟨by rw [List.length_reverse]; exact hz, _, r.reverse, IsTup.new _ _⟩
end
end L2
set_option Elab.async false
set_option linter.all false
set_option maxRecDepth 100000
set_option maxHeartbeats 4000000
namespace Pf
open PySem L2
def top (i : Nat) : Stmt := PySem.Challenge.pw_pactford_k02_pacts_told.main.body.getD i (.Pass ⟨0, 0, 0, 0⟩)
abbrev s_NoWord___init__ : Stmt := inClass (top 2) 0
abbrev n_NoWord___init__ : List Str := ["self", "word"]
theorem sc_NoWord___init__ : FnScope n_NoWord___init__ ["self", "word"] (defScope s_NoWord___init__) := ⟨rfl, rfl, rfl, by decide +kernel, rfl, by decide +kernel, by decide +kernel⟩
abbrev s_NoPact___init__ : Stmt := inClass (top 3) 0
abbrev n_NoPact___init__ : List Str := ["self", "at"]
theorem sc_NoPact___init__ : FnScope n_NoPact___init__ ["self", "at"] (defScope s_NoPact___init__) := ⟨rfl, rfl, rfl, by decide +kernel, rfl, by decide +kernel, by decide +kernel⟩
abbrev s_NoHelper___init__ : Stmt := inClass (top 4) 0
abbrev n_NoHelper___init__ : List Str := ["self", "name"]
theorem sc_NoHelper___init__ : FnScope n_NoHelper___init__ ["self", "name"] (defScope s_NoHelper___init__) := ⟨rfl, rfl, rfl, by decide +kernel, rfl, by decide +kernel, by decide +kernel⟩
abbrev s_is_name : Stmt := top 8
abbrev n_is_name : List Str := ["word", "sign"]
theorem sc_is_name : FnScope n_is_name ["word"] (defScope s_is_name) := ⟨rfl, rfl, rfl, by decide +kernel, rfl, by decide +kernel, by decide +kernel⟩
abbrev s_Pacts___init__ : Stmt := inClass (top 15) 0
abbrev n_Pacts___init__ : List Str := ["self", "pairs", "helpers", "at", "pair", "helper"]
theorem sc_Pacts___init__ : FnScope n_Pacts___init__ ["self", "pairs", "helpers"] (defScope s_Pacts___init__) := ⟨rfl, rfl, rfl, by decide +kernel, rfl, by decide +kernel, by decide +kernel⟩
abbrev s_Pacts_fits_pair : Stmt := inClass (top 15) 1
abbrev n_Pacts_fits_pair : List Str := ["self", "pair", "near", "far", "laden"]
theorem sc_Pacts_fits_pair : FnScope n_Pacts_fits_pair ["self", "pair"] (defScope s_Pacts_fits_pair) := ⟨rfl, rfl, rfl, by decide +kernel, rfl, by decide +kernel, by decide +kernel⟩
abbrev s_Pacts_fits_helper : Stmt := inClass (top 15) 2
abbrev n_Pacts_fits_helper : List Str := ["self", "helper", "name", "side", "takes", "gives", "throws", "how", "word"]
theorem sc_Pacts_fits_helper : FnScope n_Pacts_fits_helper ["self", "helper"] (defScope s_Pacts_fits_helper) := ⟨rfl, rfl, rfl, by decide +kernel, rfl, by decide +kernel, by decide +kernel⟩
abbrev s_Pacts_words_called : Stmt := inClass (top 15) 3
abbrev n_Pacts_words_called : List Str := ["self", "side", "pair"]
theorem sc_Pacts_words_called : FnScope n_Pacts_words_called ["self", "side"] (defScope s_Pacts_words_called) := ⟨rfl, rfl, rfl, by decide +kernel, rfl, by decide +kernel, by decide +kernel⟩
abbrev s_Pacts_pair_of : Stmt := inClass (top 15) 4
abbrev n_Pacts_pair_of : List Str := ["self", "word", "side", "pair"]
theorem sc_Pacts_pair_of : FnScope n_Pacts_pair_of ["self", "word", "side"] (defScope s_Pacts_pair_of) := ⟨rfl, rfl, rfl, by decide +kernel, rfl, by decide +kernel, by decide +kernel⟩
abbrev s_Pacts_pairs : Stmt := inClass (top 15) 5
abbrev n_Pacts_pairs : List Str := ["self"]
theorem sc_Pacts_pairs : FnScope n_Pacts_pairs ["self"] (defScope s_Pacts_pairs) := ⟨rfl, rfl, rfl, by decide +kernel, rfl, by decide +kernel, by decide +kernel⟩
abbrev s_Pacts_names : Stmt := inClass (top 15) 6
abbrev n_Pacts_names : List Str := ["self", "side", "name", "pact"]
theorem sc_Pacts_names : FnScope n_Pacts_names ["self", "side"] (defScope s_Pacts_names) := ⟨rfl, rfl, rfl, by decide +kernel, rfl, by decide +kernel, by decide +kernel⟩
abbrev s_Pacts_pact : Stmt := inClass (top 15) 7
abbrev n_Pacts_pact : List Str := ["self", "name"]
theorem sc_Pacts_pact : FnScope n_Pacts_pact ["self", "name"] (defScope s_Pacts_pact) := ⟨rfl, rfl, rfl, by decide +kernel, rfl, by decide +kernel, by decide +kernel⟩
abbrev s_Pacts_over : Stmt := inClass (top 15) 9
abbrev n_Pacts_over : List Str := ["self", "word", "side"]
theorem sc_Pacts_over : FnScope n_Pacts_over ["self", "word", "side"] (defScope s_Pacts_over) := ⟨rfl, rfl, rfl, by decide +kernel, rfl, by decide +kernel, by decide +kernel⟩
abbrev s_Pacts_errors : Stmt := inClass (top 15) 10
abbrev n_Pacts_errors : List Str := ["self", "name", "side", "own", "throws", "word"]
theorem sc_Pacts_errors : FnScope n_Pacts_errors ["self", "name", "side"] (defScope s_Pacts_errors) := ⟨rfl, rfl, rfl, by decide +kernel, rfl, by decide +kernel, by decide +kernel⟩
abbrev s_Pacts___len__ : Stmt := inClass (top 15) 11
abbrev n_Pacts___len__ : List Str := ["self"]
theorem sc_Pacts___len__ : FnScope n_Pacts___len__ ["self"] (defScope s_Pacts___len__) := ⟨rfl, rfl, rfl, by decide +kernel, rfl, by decide +kernel, by decide +kernel⟩
abbrev s_Pacts___eq__ : Stmt := inClass (top 15) 12
abbrev n_Pacts___eq__ : List Str := ["self", "other"]
theorem sc_Pacts___eq__ : FnScope n_Pacts___eq__ ["self", "other"] (defScope s_Pacts___eq__) := ⟨rfl, rfl, rfl, by decide +kernel, rfl, by decide +kernel, by decide +kernel⟩
abbrev s_Pacts_lines_told : Stmt := inClass (top 15) 13
abbrev n_Pacts_lines_told : List Str := ["self", "pact"]
theorem sc_Pacts_lines_told : FnScope n_Pacts_lines_told ["self"] (defScope s_Pacts_lines_told) := ⟨rfl, rfl, rfl, by decide +kernel, rfl, by decide +kernel, by decide +kernel⟩
abbrev s_Pacts___str__ : Stmt := inClass (top 15) 14
abbrev n_Pacts___str__ : List Str := ["self", "pair"]
theorem sc_Pacts___str__ : FnScope n_Pacts___str__ ["self"] (defScope s_Pacts___str__) := ⟨rfl, rfl, rfl, by decide +kernel, rfl, by decide +kernel, by decide +kernel⟩
abbrev s_pair_line : Stmt := top 16
abbrev n_pair_line : List Str := ["pair", "near", "far", "laden"]
theorem sc_pair_line : FnScope n_pair_line ["pair"] (defScope s_pair_line) := ⟨rfl, rfl, rfl, by decide +kernel, rfl, by decide +kernel, by decide +kernel⟩
abbrev s_helper_line : Stmt := top 17
abbrev n_helper_line : List Str := ["pact", "name", "side", "takes", "gives", "throws", "words"]
theorem sc_helper_line : FnScope n_helper_line ["pact"] (defScope s_helper_line) := ⟨rfl, rfl, rfl, by decide +kernel, rfl, by decide +kernel, by decide +kernel⟩
abbrev s__law_box : Stmt := top 19
abbrev n__law_box : List Str := ["_law_script", "_law_great", "_law_cell"]
theorem sc__law_box : FnScope n__law_box ["_law_script"] (defScope s__law_box) := ⟨rfl, rfl, rfl, by decide +kernel, rfl, by decide +kernel, by decide +kernel⟩
abbrev s__law_mixed : Stmt := top 20
abbrev n__law_mixed : List Str := ["_law_cell", "_law_k", "_law_whole"]
theorem sc__law_mixed : FnScope n__law_mixed ["_law_cell", "_law_k"] (defScope s__law_mixed) := ⟨rfl, rfl, rfl, by decide +kernel, rfl, by decide +kernel, by decide +kernel⟩
abbrev s__law_take : Stmt := top 21
abbrev n__law_take : List Str := ["_law_box_here", "_law_size", "_law_found", "_law_cell", "_law_reach"]
theorem sc__law_take : FnScope n__law_take ["_law_box_here", "_law_size"] (defScope s__law_take) := ⟨rfl, rfl, rfl, by decide +kernel, rfl, by decide +kernel, by decide +kernel⟩
abbrev s__law_name : Stmt := top 22
abbrev n__law_name : List Str := ["_law_box_here", "_law_many", "_law_k"]
theorem sc__law_name : FnScope n__law_name ["_law_box_here"] (defScope s__law_name) := ⟨rfl, rfl, rfl, by decide +kernel, rfl, by decide +kernel, by decide +kernel⟩
abbrev s__law_names : Stmt := top 23
abbrev n__law_names : List Str := ["_law_box_here", "_law_many", "_law_found", "_law_k", "_law_who", "_law_spare"]
theorem sc__law_names : FnScope n__law_names ["_law_box_here", "_law_many"] (defScope s__law_names) := ⟨rfl, rfl, rfl, by decide +kernel, rfl, by decide +kernel, by decide +kernel⟩
abbrev s__law_pairs : Stmt := top 24
abbrev n__law_pairs : List Str := ["_law_box_here", "_law_most", "_law_nears", "_law_fars", "_law_near", "_law_far"]
theorem sc__law_pairs : FnScope n__law_pairs ["_law_box_here", "_law_most"] (defScope s__law_pairs) := ⟨rfl, rfl, rfl, by decide +kernel, rfl, by decide +kernel, by decide +kernel⟩
abbrev s__law_some : Stmt := top 25
abbrev n__law_some : List Str := ["_law_box_here", "_law_things", "_law_most", "_law_pool", "_law_k"]
theorem sc__law_some : FnScope n__law_some ["_law_box_here", "_law_things", "_law_most"] (defScope s__law_some) := ⟨rfl, rfl, rfl, by decide +kernel, rfl, by decide +kernel, by decide +kernel⟩
abbrev s__law_helpers : Stmt := top 26
abbrev n__law_helpers : List Str := ["_law_box_here", "_law_pairs_here", "_law_names_here", "_law_counts", "_law_found", "_law_team", "_law_k", "_law_takes", "_law_throws", "_law_helper", "_law_j", "_law_pair"]
theorem sc__law_helpers : FnScope n__law_helpers ["_law_box_here", "_law_pairs_here"] (defScope s__law_helpers) := ⟨rfl, rfl, rfl, by decide +kernel, rfl, by decide +kernel, by decide +kernel⟩
abbrev s__law_crossed : Stmt := top 27
abbrev n__law_crossed : List Str := ["_law_pairs_here", "_law_helper", "_law_team", "_law_found", "_law_word", "_law_pair"]
theorem sc__law_crossed : FnScope n__law_crossed ["_law_pairs_here", "_law_helper", "_law_team"] (defScope s__law_crossed) := ⟨rfl, rfl, rfl, by decide +kernel, rfl, by decide +kernel, by decide +kernel⟩
abbrev s__law_told : Stmt := top 28
abbrev n__law_told : List Str := ["_law_pacts", "_law_pairs_here", "_law_crew", "_law_team", "_law_helper"]
theorem sc__law_told : FnScope n__law_told ["_law_pacts", "_law_pairs_here", "_law_crew"] (defScope s__law_told) := ⟨rfl, rfl, rfl, by decide +kernel, rfl, by decide +kernel, by decide +kernel⟩
abbrev s__law_refused : Stmt := top 29
abbrev n__law_refused : List Str := ["_law_pacts", "_law_who", "_law_seen", "e"]
theorem sc__law_refused : FnScope n__law_refused ["_law_pacts", "_law_who"] (defScope s__law_refused) := ⟨rfl, rfl, rfl, by decide +kernel, rfl, by decide +kernel, by decide +kernel⟩
abbrev s__law_row_otherwise : Stmt := top 30
abbrev n__law_row_otherwise : List Str := ["_law_box_here", "_law_helper", "_law_who", "_law_team", "_law_takes", "_law_gives", "_law_throws", "_law_way", "_law_at", "_law_how"]
theorem sc__law_row_otherwise : FnScope n__law_row_otherwise ["_law_box_here", "_law_helper"] (defScope s__law_row_otherwise) := ⟨rfl, rfl, rfl, by decide +kernel, rfl, by decide +kernel, by decide +kernel⟩
abbrev s__law_pair_otherwise : Stmt := top 31
abbrev n__law_pair_otherwise : List Str := ["_law_box_here", "_law_pairs_here", "_law_crew", "_law_at", "_law_way", "_law_near", "_law_far", "_law_laden", "_law_known", "_law_fresh", "_law_found", "_law_who", "_law_team", "_law_takes", "_law_gives", "_law_throws", "_law_pair", "_law_one"]
theorem sc__law_pair_otherwise : FnScope n__law_pair_otherwise ["_law_box_here", "_law_pairs_here", "_law_crew"] (defScope s__law_pair_otherwise) := ⟨rfl, rfl, rfl, by decide +kernel, rfl, by decide +kernel, by decide +kernel⟩
abbrev s__law_otherwise : Stmt := top 32
abbrev n__law_otherwise : List Str := ["_law_box_here", "_law_pairs_here", "_law_crew", "_law_way", "_law_at"]
theorem sc__law_otherwise : FnScope n__law_otherwise ["_law_box_here", "_law_pairs_here", "_law_crew"] (defScope s__law_otherwise) := ⟨rfl, rfl, rfl, by decide +kernel, rfl, by decide +kernel, by decide +kernel⟩
abbrev s_law : Stmt := top 33
abbrev n_law : List Str := ["_law_script", "_law_box_here", "_law_pairs_here", "_law_crew", "_law_mine", "_law_pacts", "_law_who", "_law_helper", "_law_same", "_law_lists", "_law_other", "_law_pair"]
theorem sc_law : FnScope n_law ["_law_script"] (defScope s_law) := ⟨rfl, rfl, rfl, by decide +kernel, rfl, by decide +kernel, by decide +kernel⟩
structure Ad where
  k_HOWS : Addr
  c_Pacts : Addr
  c_PactError : Addr
  c_NoWord : Addr
  c_NoPact : Addr
  c_NoHelper : Addr
  f_NoWord___init__ : Addr
  d_NoWord___init__ : FuncData
  f_NoPact___init__ : Addr
  d_NoPact___init__ : FuncData
  f_NoHelper___init__ : Addr
  d_NoHelper___init__ : FuncData
  f_is_name : Addr
  d_is_name : FuncData
  f_Pacts___init__ : Addr
  d_Pacts___init__ : FuncData
  f_Pacts_fits_pair : Addr
  d_Pacts_fits_pair : FuncData
  f_Pacts_fits_helper : Addr
  d_Pacts_fits_helper : FuncData
  f_Pacts_words_called : Addr
  d_Pacts_words_called : FuncData
  f_Pacts_pair_of : Addr
  d_Pacts_pair_of : FuncData
  f_Pacts_pairs : Addr
  d_Pacts_pairs : FuncData
  f_Pacts_names : Addr
  d_Pacts_names : FuncData
  f_Pacts_pact : Addr
  d_Pacts_pact : FuncData
  f_Pacts_over : Addr
  d_Pacts_over : FuncData
  f_Pacts_errors : Addr
  d_Pacts_errors : FuncData
  f_Pacts___len__ : Addr
  d_Pacts___len__ : FuncData
  f_Pacts___eq__ : Addr
  d_Pacts___eq__ : FuncData
  f_Pacts_lines_told : Addr
  d_Pacts_lines_told : FuncData
  f_Pacts___str__ : Addr
  d_Pacts___str__ : FuncData
  f_pair_line : Addr
  d_pair_line : FuncData
  f_helper_line : Addr
  d_helper_line : FuncData
  f__law_box : Addr
  d__law_box : FuncData
  f__law_mixed : Addr
  d__law_mixed : FuncData
  f__law_take : Addr
  d__law_take : FuncData
  f__law_name : Addr
  d__law_name : FuncData
  f__law_names : Addr
  d__law_names : FuncData
  f__law_pairs : Addr
  d__law_pairs : FuncData
  f__law_some : Addr
  d__law_some : FuncData
  f__law_helpers : Addr
  d__law_helpers : FuncData
  f__law_crossed : Addr
  d__law_crossed : FuncData
  f__law_told : Addr
  d__law_told : FuncData
  f__law_refused : Addr
  d__law_refused : FuncData
  f__law_row_otherwise : Addr
  d__law_row_otherwise : FuncData
  f__law_pair_otherwise : Addr
  d__law_pair_otherwise : FuncData
  f__law_otherwise : Addr
  d__law_otherwise : FuncData
  f_law : Addr
  d_law : FuncData
structure Txt (K : PySem.W.Frag) (mg : Str → Option Value) (a : Ad) : Prop where
  m_Pacts : mg "Pacts" = some (.ref a.c_Pacts)
  cl_Pacts : Cls K a.c_Pacts
  mk_Pacts : Mk K a.c_Pacts a.f_Pacts___init__
  oc_Pacts : OwnC K a.c_Pacts
  na_Pacts_kept_pairs : NoAttr K a.c_Pacts "kept_pairs"
  na_Pacts_kept_pacts : NoAttr K a.c_Pacts "kept_pacts"
  m_PactError : mg "PactError" = some (.ref a.c_PactError)
  m_NoWord : mg "NoWord" = some (.ref a.c_NoWord)
  ox_NoWord : OexC K a.c_NoWord
  xf_NoWord : XfC K a.c_NoWord
  ec_NoWord : ExcC K a.c_NoWord
  ini_NoWord : PySem.W.findIn K (.ref a.c_NoWord) "__init__" = some (some (.ref a.f_NoWord___init__))
  ti_NoWord : PySem.W.typeIn K (.ref a.f_NoWord___init__) = some (.type "function")
  na_NoWord_word : PySem.W.findIn K (.ref a.c_NoWord) "word" = some none
  m_NoPact : mg "NoPact" = some (.ref a.c_NoPact)
  ox_NoPact : OexC K a.c_NoPact
  xf_NoPact : XfC K a.c_NoPact
  ec_NoPact : ExcC K a.c_NoPact
  ini_NoPact : PySem.W.findIn K (.ref a.c_NoPact) "__init__" = some (some (.ref a.f_NoPact___init__))
  ti_NoPact : PySem.W.typeIn K (.ref a.f_NoPact___init__) = some (.type "function")
  na_NoPact_at : PySem.W.findIn K (.ref a.c_NoPact) "at" = some none
  m_NoHelper : mg "NoHelper" = some (.ref a.c_NoHelper)
  ox_NoHelper : OexC K a.c_NoHelper
  xf_NoHelper : XfC K a.c_NoHelper
  ec_NoHelper : ExcC K a.c_NoHelper
  ini_NoHelper : PySem.W.findIn K (.ref a.c_NoHelper) "__init__" = some (some (.ref a.f_NoHelper___init__))
  ti_NoHelper : PySem.W.typeIn K (.ref a.f_NoHelper___init__) = some (.type "function")
  na_NoHelper_name : PySem.W.findIn K (.ref a.c_NoHelper) "name" = some none
  ex_NoHelper_NoHelper : PySem.W.exmOne K (.ref a.c_NoHelper) (.ref a.c_NoHelper) = some true
  ex_NoHelper_PactError : PySem.W.exmOne K (.ref a.c_NoHelper) (.ref a.c_PactError) = some true
  ex_NoHelper_NoWord : PySem.W.exmOne K (.ref a.c_NoHelper) (.ref a.c_NoWord) = some false
  ex_NoHelper_ValueError : PySem.W.subIn K (.ref a.c_NoHelper) (.type "ValueError") = some true
  F_NoWord___init__ : Fun K "__init__" "NoWord.__init__" s_NoWord___init__ a.f_NoWord___init__ a.d_NoWord___init__
  b_NoWord___init__ : Binds K a.d_NoWord___init__ ["self", "word"] []
  F_NoPact___init__ : Fun K "__init__" "NoPact.__init__" s_NoPact___init__ a.f_NoPact___init__ a.d_NoPact___init__
  b_NoPact___init__ : Binds K a.d_NoPact___init__ ["self", "at"] []
  F_NoHelper___init__ : Fun K "__init__" "NoHelper.__init__" s_NoHelper___init__ a.f_NoHelper___init__ a.d_NoHelper___init__
  b_NoHelper___init__ : Binds K a.d_NoHelper___init__ ["self", "name"] []
  F_is_name : Fun K "is_name" "is_name" s_is_name a.f_is_name a.d_is_name
  b_is_name : Binds K a.d_is_name ["word"] []
  m_is_name : mg "is_name" = some (.ref a.f_is_name)
  F_Pacts___init__ : Fun K "__init__" "Pacts.__init__" s_Pacts___init__ a.f_Pacts___init__ a.d_Pacts___init__
  b_Pacts___init__ : Binds K a.d_Pacts___init__ ["self", "pairs", "helpers"] []
  F_Pacts_fits_pair : Fun K "fits_pair" "Pacts.fits_pair" s_Pacts_fits_pair a.f_Pacts_fits_pair a.d_Pacts_fits_pair
  b_Pacts_fits_pair : Binds K a.d_Pacts_fits_pair ["self", "pair"] []
  mt_Pacts_fits_pair : Meth K a.c_Pacts "fits_pair" a.f_Pacts_fits_pair
  F_Pacts_fits_helper : Fun K "fits_helper" "Pacts.fits_helper" s_Pacts_fits_helper a.f_Pacts_fits_helper a.d_Pacts_fits_helper
  b_Pacts_fits_helper : Binds K a.d_Pacts_fits_helper ["self", "helper"] []
  mt_Pacts_fits_helper : Meth K a.c_Pacts "fits_helper" a.f_Pacts_fits_helper
  F_Pacts_words_called : Fun K "words_called" "Pacts.words_called" s_Pacts_words_called a.f_Pacts_words_called a.d_Pacts_words_called
  b_Pacts_words_called : Binds K a.d_Pacts_words_called ["self", "side"] []
  mt_Pacts_words_called : Meth K a.c_Pacts "words_called" a.f_Pacts_words_called
  F_Pacts_pair_of : Fun K "pair_of" "Pacts.pair_of" s_Pacts_pair_of a.f_Pacts_pair_of a.d_Pacts_pair_of
  b_Pacts_pair_of : Binds K a.d_Pacts_pair_of ["self", "word", "side"] []
  mt_Pacts_pair_of : Meth K a.c_Pacts "pair_of" a.f_Pacts_pair_of
  F_Pacts_pairs : Fun K "pairs" "Pacts.pairs" s_Pacts_pairs a.f_Pacts_pairs a.d_Pacts_pairs
  b_Pacts_pairs : Binds K a.d_Pacts_pairs ["self"] []
  mt_Pacts_pairs : Meth K a.c_Pacts "pairs" a.f_Pacts_pairs
  F_Pacts_names : Fun K "names" "Pacts.names" s_Pacts_names a.f_Pacts_names a.d_Pacts_names
  b_Pacts_names : Binds K a.d_Pacts_names ["self", "side"] []
  mt_Pacts_names : Meth K a.c_Pacts "names" a.f_Pacts_names
  F_Pacts_pact : Fun K "pact" "Pacts.pact" s_Pacts_pact a.f_Pacts_pact a.d_Pacts_pact
  b_Pacts_pact : Binds K a.d_Pacts_pact ["self", "name"] []
  mt_Pacts_pact : Meth K a.c_Pacts "pact" a.f_Pacts_pact
  F_Pacts_over : Fun K "over" "Pacts.over" s_Pacts_over a.f_Pacts_over a.d_Pacts_over
  mt_Pacts_over : Meth K a.c_Pacts "over" a.f_Pacts_over
  F_Pacts_errors : Fun K "errors" "Pacts.errors" s_Pacts_errors a.f_Pacts_errors a.d_Pacts_errors
  mt_Pacts_errors : Meth K a.c_Pacts "errors" a.f_Pacts_errors
  F_Pacts___len__ : Fun K "__len__" "Pacts.__len__" s_Pacts___len__ a.f_Pacts___len__ a.d_Pacts___len__
  b_Pacts___len__ : Binds K a.d_Pacts___len__ ["self"] []
  mt_Pacts___len__ : Meth K a.c_Pacts "__len__" a.f_Pacts___len__
  F_Pacts___eq__ : Fun K "__eq__" "Pacts.__eq__" s_Pacts___eq__ a.f_Pacts___eq__ a.d_Pacts___eq__
  b_Pacts___eq__ : Binds K a.d_Pacts___eq__ ["self", "other"] []
  mt_Pacts___eq__ : Meth K a.c_Pacts "__eq__" a.f_Pacts___eq__
  F_Pacts_lines_told : Fun K "lines_told" "Pacts.lines_told" s_Pacts_lines_told a.f_Pacts_lines_told a.d_Pacts_lines_told
  b_Pacts_lines_told : Binds K a.d_Pacts_lines_told ["self"] []
  mt_Pacts_lines_told : Meth K a.c_Pacts "lines_told" a.f_Pacts_lines_told
  F_Pacts___str__ : Fun K "__str__" "Pacts.__str__" s_Pacts___str__ a.f_Pacts___str__ a.d_Pacts___str__
  b_Pacts___str__ : Binds K a.d_Pacts___str__ ["self"] []
  mt_Pacts___str__ : Meth K a.c_Pacts "__str__" a.f_Pacts___str__
  F_pair_line : Fun K "pair_line" "pair_line" s_pair_line a.f_pair_line a.d_pair_line
  b_pair_line : Binds K a.d_pair_line ["pair"] []
  m_pair_line : mg "pair_line" = some (.ref a.f_pair_line)
  F_helper_line : Fun K "helper_line" "helper_line" s_helper_line a.f_helper_line a.d_helper_line
  b_helper_line : Binds K a.d_helper_line ["pact"] []
  m_helper_line : mg "helper_line" = some (.ref a.f_helper_line)
  F__law_box : Fun K "_law_box" "_law_box" s__law_box a.f__law_box a.d__law_box
  b__law_box : Binds K a.d__law_box ["_law_script"] []
  m__law_box : mg "_law_box" = some (.ref a.f__law_box)
  F__law_mixed : Fun K "_law_mixed" "_law_mixed" s__law_mixed a.f__law_mixed a.d__law_mixed
  b__law_mixed : Binds K a.d__law_mixed ["_law_cell", "_law_k"] []
  m__law_mixed : mg "_law_mixed" = some (.ref a.f__law_mixed)
  F__law_take : Fun K "_law_take" "_law_take" s__law_take a.f__law_take a.d__law_take
  b__law_take : Binds K a.d__law_take ["_law_box_here", "_law_size"] []
  m__law_take : mg "_law_take" = some (.ref a.f__law_take)
  F__law_name : Fun K "_law_name" "_law_name" s__law_name a.f__law_name a.d__law_name
  b__law_name : Binds K a.d__law_name ["_law_box_here"] []
  m__law_name : mg "_law_name" = some (.ref a.f__law_name)
  F__law_names : Fun K "_law_names" "_law_names" s__law_names a.f__law_names a.d__law_names
  b__law_names : Binds K a.d__law_names ["_law_box_here", "_law_many"] []
  m__law_names : mg "_law_names" = some (.ref a.f__law_names)
  F__law_pairs : Fun K "_law_pairs" "_law_pairs" s__law_pairs a.f__law_pairs a.d__law_pairs
  b__law_pairs : Binds K a.d__law_pairs ["_law_box_here", "_law_most"] []
  m__law_pairs : mg "_law_pairs" = some (.ref a.f__law_pairs)
  F__law_some : Fun K "_law_some" "_law_some" s__law_some a.f__law_some a.d__law_some
  b__law_some : Binds K a.d__law_some ["_law_box_here", "_law_things", "_law_most"] []
  m__law_some : mg "_law_some" = some (.ref a.f__law_some)
  F__law_helpers : Fun K "_law_helpers" "_law_helpers" s__law_helpers a.f__law_helpers a.d__law_helpers
  b__law_helpers : Binds K a.d__law_helpers ["_law_box_here", "_law_pairs_here"] []
  m__law_helpers : mg "_law_helpers" = some (.ref a.f__law_helpers)
  F__law_crossed : Fun K "_law_crossed" "_law_crossed" s__law_crossed a.f__law_crossed a.d__law_crossed
  b__law_crossed : Binds K a.d__law_crossed ["_law_pairs_here", "_law_helper", "_law_team"] []
  m__law_crossed : mg "_law_crossed" = some (.ref a.f__law_crossed)
  F__law_told : Fun K "_law_told" "_law_told" s__law_told a.f__law_told a.d__law_told
  b__law_told : Binds K a.d__law_told ["_law_pacts", "_law_pairs_here", "_law_crew"] []
  m__law_told : mg "_law_told" = some (.ref a.f__law_told)
  F__law_refused : Fun K "_law_refused" "_law_refused" s__law_refused a.f__law_refused a.d__law_refused
  b__law_refused : Binds K a.d__law_refused ["_law_pacts", "_law_who"] []
  m__law_refused : mg "_law_refused" = some (.ref a.f__law_refused)
  F__law_row_otherwise : Fun K "_law_row_otherwise" "_law_row_otherwise" s__law_row_otherwise a.f__law_row_otherwise a.d__law_row_otherwise
  b__law_row_otherwise : Binds K a.d__law_row_otherwise ["_law_box_here", "_law_helper"] []
  m__law_row_otherwise : mg "_law_row_otherwise" = some (.ref a.f__law_row_otherwise)
  F__law_pair_otherwise : Fun K "_law_pair_otherwise" "_law_pair_otherwise" s__law_pair_otherwise a.f__law_pair_otherwise a.d__law_pair_otherwise
  b__law_pair_otherwise : Binds K a.d__law_pair_otherwise ["_law_box_here", "_law_pairs_here", "_law_crew"] []
  m__law_pair_otherwise : mg "_law_pair_otherwise" = some (.ref a.f__law_pair_otherwise)
  F__law_otherwise : Fun K "_law_otherwise" "_law_otherwise" s__law_otherwise a.f__law_otherwise a.d__law_otherwise
  b__law_otherwise : Binds K a.d__law_otherwise ["_law_box_here", "_law_pairs_here", "_law_crew"] []
  m__law_otherwise : mg "_law_otherwise" = some (.ref a.f__law_otherwise)
  F_law : Fun K "law" "law" s_law a.f_law a.d_law
  b_law : Binds K a.d_law ["_law_script"] []
  m_law : mg "law" = some (.ref a.f_law)
  kb_Pacts___init___helpers : KBinds K a.d_Pacts___init__ ["self", "pairs", "helpers"] ["helpers"] (kbGn 2) (kbVn 2)
  kb_Pacts_pact_name : KBinds K a.d_Pacts_pact ["self", "name"] ["name"] (kbGn 1) (kbVn 1)
  kb_Pacts_errors_side : KBinds K a.d_Pacts_errors ["self", "name", "side"] ["side"] (kbGn 2) (kbVn 2)
  kb_Pacts_over_side : KBinds K a.d_Pacts_over ["self", "word", "side"] ["side"] (kbGn 2) (kbVn 2)
  g_LETTERS : ∃ t, mg "LETTERS" = some (.str "abcdefghijklmnopqrstuvwxyz" t)
  g_MOST : ∃ t, mg "MOST" = some (.int 8 t)
  g_MOST_PAIRS : ∃ t, mg "MOST_PAIRS" = some (.int 6 t)
  g_MOST_HELPERS : ∃ t, mg "MOST_HELPERS" = some (.int 4 t)
  g_MOST_TAKES : ∃ t, mg "MOST_TAKES" = some (.int 3 t)
  g_MOST_THROWS : ∃ t, mg "MOST_THROWS" = some (.int 4 t)
  g_HOWS : mg "HOWS" = some (.ref a.k_HOWS)
  tp_HOWS : ∀ H, SqT K H a.k_HOWS [.str "lent", .str "given"]
  z_all : mg "all" = none
  z_len : mg "len" = none
  z_enumerate : mg "enumerate" = none
  z_any : mg "any" = none
  z_set : mg "set" = none
  z_list : mg "list" = none
  z_isinstance : mg "isinstance" = none
  z_str : mg "str" = none
  z_range : mg "range" = none
  z_zip : mg "zip" = none
  z_min : mg "min" = none
  z_tuple : mg "tuple" = none
  z_bool : mg "bool" = none
  z_ValueError : mg "ValueError" = none
  z_int : mg "int" = none
/-! ### what all laws share: the box of draws -/
/-- all but the two objects of the box stand as they were -/
def Keep2 (b g : Addr) (H H' : Hp) : Prop := ∀ a o, a ≠ b → a ≠ g → H a = some o → H' a = some o
theorem Keep2.refl (b g : Addr) (H : Hp) : Keep2 b g H H := fun _ _ _ _ h => h
theorem Keep2.trans {b g : Addr} {H H1 H2 : Hp} (x : Keep2 b g H H1) (y : Keep2 b g H1 H2) : Keep2 b g H H2 := fun a o h1 h2 h => y a o h1 h2 (x a o h1 h2 h)
/-- all but one object stand as they were -/
def Keep1 (b : Addr) (H H' : Hp) : Prop := ∀ a o, a ≠ b → H a = some o → H' a = some o
/-- a box at b, its list of great cells at g, of lesser ones at l; n draws were made -/
structure BoxAt (H : Hp) (b g l : Addr) (n : Int) : Prop where
  ex : ∃ (gs ls : List Int) (d : Int), H b = some (.lst [.ref g, .int d, .ref l, .int n]) ∧ H g = some (.lst (gs.map V.int)) ∧ H l = some (.lst (ls.map V.int)) ∧
    0 ≤ d ∧ (∀ z ∈ gs, 0 ≤ z) ∧ gs.length ≤ 63 ∧ ls.length ≤ 63 ∧ b ≠ g ∧ b ≠ l ∧ g ≠ l
  pos : 0 ≤ n
theorem BoxAt.keep {H H' : Hp} {b g l : Addr} {n : Int} (B : BoxAt H b g l n) (k : ∀ a o, H a = some o → a = b ∨ a = g ∨ a = l → H' a = some o) : BoxAt H' b g l n := by
  obtain ⟨gs, ls, d, h1, h2, h3, h⟩ := B.ex
  exact ⟨⟨gs, ls, d, k _ _ h1 (.inl rfl), k _ _ h2 (.inr (.inl rfl)), k _ _ h3 (.inr (.inr rfl)), h⟩, B.pos⟩
theorem BoxAt.same {H H' : Hp} {b g l : Addr} {n : Int} (B : BoxAt H b g l n) (k : ∀ a o, H a = some o → H' a = some o) : BoxAt H' b g l n := B.keep fun a o h _ => k a o h
/-- the three are lists -/
theorem BoxAt.lists {H : Hp} {b g l : Addr} {n : Int} (B : BoxAt H b g l n) : (∃ xs, H b = some (.lst xs)) ∧ (∃ xs, H g = some (.lst xs)) ∧ ∃ xs, H l = some (.lst xs) := by
  obtain ⟨gs, ls, d, h1, h2, h3, _⟩ := B.ex
  exact ⟨⟨_, h1⟩, ⟨_, h2⟩, ⟨_, h3⟩⟩
theorem BoxAt.fresh {H : Hp} {b g l D : Addr} {n : Int} (B : BoxAt H b g l n) (hD : H D = none) : D ≠ b ∧ D ≠ g ∧ D ≠ l := by
  obtain ⟨⟨_, h1⟩, ⟨_, h2⟩, ⟨_, h3⟩⟩ := B.lists
  exact ⟨(ne_of_none h1 hD).symm, (ne_of_none h2 hD).symm, (ne_of_none h3 hD).symm⟩
theorem BoxAt.upd {H : Hp} {b g l D : Addr} {n : Int} {o : HO} (B : BoxAt H b g l n) (h : D ≠ b ∧ D ≠ g ∧ D ≠ l) : BoxAt (upd H D o) b g l n := by
  refine B.keep fun x o e z => ?_
  have hx : x ≠ D := by
    rcases z with z | z | z
    · rw [z]; exact h.1.symm
    · rw [z]; exact h.2.1.symm
    · rw [z]; exact h.2.2.symm
  exact upd_get hx e
/-- _law_mixed: some number -/
def spMixed : Sp := fun vs H Q _ => ∃ (c k : Int), vs = [.int c, .int k] ∧ 0 ≤ k ∧ k ≤ 10000000 ∧ ∀ r : Int, Q (.int r) H
/-- _law_take: a number below the size -/
def spTake : Sp := fun vs H Q _ => ∃ (b g l : Addr) (n sz : Int), vs = [.ref b, .int sz] ∧ BoxAt H b g l n ∧ n ≤ 1000000 ∧ 0 < sz ∧ sz < 2 ^ 200 ∧
  ∀ (r : Int) (H' : Hp), 0 ≤ r → r < sz → BoxAt H' b g l (n + 1) → Keep2 b g H H' → Q (.int r) H'
/-- _law_box: a new box -/
def spBox (K : PySem.W.Frag) : Sp := fun vs H Q _ => ∃ (a : Addr) (ns : List Int), vs = [.ref a] ∧ SqL K H a (ns.map V.int) ∧ ns.length ≤ 63 ∧
  ∀ (b g l : Addr) (H' : Hp), H b = none → H g = none → H l = none → BoxAt H' b g l 0 → Same H H' → Q (.ref b) H'
local macro_rules | `(tactic| walk_at "nz") => `(tactic| (show (_ : Int) ≠ 0; omega))
local macro_rules | `(tactic| walk_at "ne") => `(tactic| first | assumption | (apply Ne.symm; assumption))
local macro_rules | `(tactic| walk_at "hp") => `(tactic| first | assumption | exact upd_same | (refine upd_get ?_ ?_; walk_at "ne"; walk_at "hp"))
local macro_rules | `(tactic| walk_at "sd") => `(tactic| first
  | (with_reducible show (_ : Int) < _; omega)
  | (with_reducible show (_ : Int) ≤ _; omega)
  | (with_reducible show (_ : Nat) < _; omega)
  | (with_reducible show (_ : Nat) ≤ _; omega)
  | rfl
  | assumption
  | exact kV_int _
  | exact kV_str _
  | (show (_ : Int) ≠ 0; omega)
  | exact SqL.of (by walk_at "hp")
  | exact ⟨_, SqL.of (by walk_at "hp")⟩
  | exact ⟨_, SqT.of (by walk_at "hp")⟩
  | exact ⟨_, (by assumption)⟩
  | exact SqT.of (by walk_at "hp")
  | exact Rd.of (by walk_at "hp")
  | exact Or.inl (SqL.of (by walk_at "hp"))
  | exact Or.inr (SqT.of (by walk_at "hp"))
  | exact Or.inr (by assumption)
  | (walk_at "hp")
  | (exact Or.inl ⟨rfl, _, SqL.of (by walk_at "hp")⟩)
  | (exact Or.inl ⟨by omega, by omega⟩)
  | (exact Or.inr ⟨by omega, by omega⟩)
  | (refine ⟨?_, ?_, ?_⟩ <;> omega)
  | omega
  | (exact small_le (by first | omega | (simp only [List.length_cons, List.length_nil]; omega)))
  | (exact small_lt (by first | omega | (simp only [List.length_cons, List.length_nil]; omega)))
  | exact Nat.le_of_ble_eq_true rfl
  | exact ⟨_, rfl⟩
  | decide)
local macro_rules | `(tactic| walk_at "st") => `(tactic| first
  | with_reducible refine sq_seq ?_
  | apply Exists.intro
  | (refine And.intro ?_ ?_; (walk_at "sd")))
local macro_rules | `(tactic| walk_at "go") => `(tactic| repeat (walk_at "st"))
section
variable {P : Program} {w : World} {K : PySem.W.Frag} {mg : Str → Option Value} {base : Heap} {a : Ad}
theorem ok__law_mixed (T : Txt K mg a) : FnOk P w K mg base CX0 1 a.f__law_mixed a.d__law_mixed ["_law_cell", "_law_k"] spMixed := by
  refine T.F__law_mixed.ok sc__law_mixed (fun vs H Q E h => ?_) (fun cdv A outer s H vs Q E hr h => ?_)
  · obtain ⟨c, k, rfl, _⟩ := h
    rfl
  · obtain ⟨c, k, rfl, h0, h1, q⟩ := h
    refine ⟨_, (pss_cons (ps_set (i := 2) sc__law_mixed.nd rfl (Or.inl rfl) (pe_op op_modN (pe_op op_pow (pe_op op_add (pe_op op_add (pe_op op_add (pe_op op_modN (pv 0) pe_int) (pe_op op_mul (pe_op op_mul pe_int (pv 1)) (pv 1))) (pe_op op_mul pe_int (pv 1))) pe_int) pe_int) pe_int))
      (pss_one (ps_ret (pe_op op_modN (pe_op op_add (pe_op op_mul (pv 2) pe_int) (pe_op op_mul pe_int (pv 1))) pe_int)))), ?_⟩
    have m1 := fmod_pos (i := c) (j := 2147483647) (by decide)
    have e1 : 1009 * k ≤ 10090000000 := by omega
    have e2 : 0 ≤ 1009 * k * k := Int.mul_nonneg (by omega) h0
    have e3 : 1009 * k * k ≤ 10090000000 * 10000000 := Int.mul_le_mul e1 h1 h0 (by decide)
    walk_at "go"
    exact q _
theorem ok__law_take (T : Txt K mg a) : FnOk P w K mg base CX0 2 a.f__law_take a.d__law_take ["_law_box_here", "_law_size"] spTake := by
  have G__law_mixed := ok__law_mixed (P := P) (w := w) (base := base) T
  refine T.F__law_take.ok sc__law_take (fun vs H Q E h => ?_) (fun cdv A outer s H vs Q E hr h => ?_)
  · obtain ⟨b, g, l, n, sz, rfl, _⟩ := h
    rfl
  · obtain ⟨b, g, l, n, sz, rfl, B, hn, s0, s1, q⟩ := h
    obtain ⟨gs, ls, d, hb, hg, hl, d0, g0, lg, ll, nbg, nbl, ngl⟩ := B.ex
    have n0 := B.pos
    refine ⟨_, (pss_cons (ps_asg (pe_op op_add (pe_ix ix_list (pv 0) pe_int (fun _ _ => rfl)) pe_int) (pg_sub (pv 0) pe_int set_list))
      (pss_mid (ps_if (PW.pt (pw_and (pt_cmpR op_eq (pe_ix ix_list (pv 0) pe_int (fun _ _ => rfl)) pe_int (nomark _)) (pw_and1 (pt_cmpR op_gt (pe_callB call_lenK (by rfl) T.z_len PySem.boot_len (pa_cons (pe_ix ix_list (pv 0) pe_int (fun _ _ => rfl)) pa_nil)) pe_int (nomark _))))) (pss_one (ps_asg (pe_bm PySem.F.plainAttrs_list PySem.F.slot_list_pop PySem.F.type_list_pop mt_popAt (pe_ix ix_list (pv 0) pe_int (fun _ _ => rfl)) (pa_cons pe_int pa_nil)) (pg_sub (pv 0) pe_int set_list))) pss_nil)
      (pss_cons (ps_if (pt_cmpR op_gt (pe_ix ix_list (pv 0) pe_int (fun _ _ => rfl)) pe_int (nomark _)) (pss_cons (ps_set (i := 2) sc__law_take.nd rfl (Or.inl rfl) (pe_op op_modN (pe_ix ix_list (pv 0) pe_int (fun _ _ => rfl)) (pv 1)))
      (pss_cons (ps_asg (pe_op op_fdivW (pe_ix ix_list (pv 0) pe_int (fun _ _ => rfl)) (pv 1)) (pg_sub (pv 0) pe_int set_list))
      (pss_one (ps_ret (pv 2))))) pss_nil)
      (pss_cons (ps_set (i := 3) sc__law_take.nd rfl (Or.inl rfl) (pe_op op_mul pe_int (pe_ix ix_list (pv 0) pe_int (fun _ _ => rfl))))
      (pss_mid (ps_if (pt_cmpR op_gt (pe_callB call_lenK (by rfl) T.z_len PySem.boot_len (pa_cons (pe_ix ix_list (pv 0) pe_int (fun _ _ => rfl)) pa_nil)) pe_int (nomark _)) (pss_one (ps_set (i := 3) sc__law_take.nd rfl (Or.inl rfl) (pe_ix ix_list (pe_ix ix_list (pv 0) pe_int (fun _ _ => rfl)) (pe_op op_modN (pe_ix ix_list (pv 0) pe_int (fun _ _ => rfl)) (pe_callB call_lenK (by rfl) T.z_len PySem.boot_len (pa_cons (pe_ix ix_list (pv 0) pe_int (fun _ _ => rfl)) pa_nil))) (fun _ _ => rfl)))) pss_nil)
      (pss_cons (ps_set (i := 2) sc__law_take.nd rfl (Or.inl rfl) pe_int)
      (pss_cons (ps_set (i := 4) sc__law_take.nd rfl (Or.inl rfl) pe_int)
      (pss_cons (ps_stop (ps_while PassesOwn.never (pt_cmpR op_lt (pv 4) (pv 1) (nomark _)) (pss_cons (ps_set (i := 2) sc__law_take.nd rfl (Or.inl rfl) (pe_op op_add (pe_op op_mul (pv 2) pe_int) (pe_call G__law_mixed (hr.mono (by decide)) rfl T.m__law_mixed T.F__law_mixed.kp T.b__law_mixed .nil pass0 (pa_cons (pv 3) (pa_cons (pe_op op_add (pe_ix ix_list (pv 0) pe_int (fun _ _ => rfl)) (pe_op op_mul pe_int (pe_op op_modN (pv 2) pe_int))) pa_nil)))))
      (pss_one (ps_set (i := 4) sc__law_take.nd rfl (Or.inl rfl) (pe_op op_mul (pv 4) pe_int))))))
      (pss_one (ps_ret (pe_op op_modN (pv 2) (pv 1)))))))))))), ?_⟩
    walk_at "go"
    -- if box[1] == 0 and len(box[0]) > 0
    refine mid_of (fun σ H1 => ∃ (gs1 : List Int) (d1 : Int), σ = [some (.ref b), some (.int sz), none, none, none] ∧ H1 b = some (.lst [.ref g, .int d1, .ref l, .int (n + 1)]) ∧ H1 g = some (.lst (gs1.map V.int)) ∧ H1 l = some (.lst (ls.map V.int)) ∧
      0 ≤ d1 ∧ (∀ z ∈ gs1, 0 ≤ z) ∧ gs1.length ≤ 63 ∧ Keep2 b g H H1) ?_ ?_
    · have k1 : Keep2 b g H (upd H b (.lst [.ref g, .int d, .ref l, .int (n + 1)])) := fun x o n1 n2 e => by rw [upd_ne n1]; exact e
      walk_at "go"
      refine ifD (fun e => ?_) (fun _ => ?_)
      · walk_at "go"
        refine ifD (fun e2 => ?_) (fun _ => ?_)
        · cases gs with
          | nil => exact absurd e2 (by decide)
          | cons z r =>
            walk_at "go"
            refine ⟨(seqIndex_of (by decide) e2 : seqIndex? 0 _ = some 0), rfl, ?_⟩
            walk_at "go"
            refine wait ⟨r, z, rfl, upd_same, upd_get nbg.symm upd_same, upd_get nbl.symm (upd_get ngl.symm (upd_get nbl.symm hl)), g0 _ List.mem_cons_self, fun y hy => g0 y (List.mem_cons_of_mem _ hy), ?_, ?_⟩
            · rw [List.length_cons] at lg
              omega
            · intro x o n1 n2 e
              rw [upd_ne n1, upd_ne n2, upd_ne n1]
              exact e
        · exact wait ⟨gs, d, rfl, upd_same, upd_get nbg.symm hg, upd_get nbl.symm hl, d0, g0, lg, k1⟩
      · refine ifF rfl ?_
        exact wait ⟨gs, d, rfl, upd_same, upd_get nbg.symm hg, upd_get nbl.symm hl, d0, g0, lg, k1⟩
    · rintro σ H1 ⟨gs1, d1, rfl, hb1, hg1, hl1, d10, g10, lg1, k1⟩
      walk_at "go"
      refine ifD (fun e => ?_) (fun e => ?_)
      · have m := fmod_pos (i := d1) (j := sz) s0
        have hd : CDivW d1 sz := wide_div (b := 200) s0 (by omega) (by decide) (by decide)
        walk_at "go"
        refine q _ _ m.1 m.2 ⟨⟨gs1, ls, d1 / sz, upd_same, upd_get nbg.symm hg1, upd_get nbl.symm hl1, Int.ediv_nonneg d10 (by omega), g10, lg1, ll, nbg, nbl, ngl⟩, by omega⟩ ?_
        intro x o n1 n2 e
        rw [upd_ne n1]
        exact k1 x o n1 n2 e
      · walk_at "go"
        refine mid_of (fun σ H2 => H2 = H1 ∧ ∃ c : Int, σ = [some (.ref b), some (.int sz), none, some (.int c), none]) ?_ ?_
        · walk_at "go"
          refine ifD (fun e2 => ?_) (fun _ => ?_)
          · have e3 : (0 : Int) < (ls.length : Int) := by rw [List.length_map] at e2; exact e2
            have m := fmod_pos (i := n + 1) (j := (ls.length : Int)) e3
            obtain ⟨z, hz, _⟩ := atI_ints m.1 m.2
            have hz2 : atI (ls.map V.int) ((n + 1).fmod ((ls.map V.int).length : Int)) = some (.int z) := by rw [List.length_map]; exact hz
            walk_at "go"
            exact wait ⟨rfl, _, rfl⟩
          · exact wait ⟨rfl, _, rfl⟩
        · rintro σ H2 ⟨rfl, c, rfl⟩
          walk_at "go"
          refine while_W (fun m σ H3 => H3 = H2 ∧ ∃ f r : Int, σ = [some (.ref b), some (.int sz), some (.int f), some (.int c), some (.int r)] ∧ 0 < r ∧ m = (sz - r).toNat) (sz - 1).toNat ?_ ?_
          · exact ⟨rfl, 0, 1, rfl, by decide, rfl⟩
          · rintro m σ H3 ⟨rfl, f, r, rfl, r0, rfl⟩
            walk_at "go"
            refine ifD (fun e2 => ?_) (fun _ => ?_)
            · have m := fmod_pos (i := f) (j := 89) (by decide)
              refine next_W ?_
              walk_at "go"
              intro x
              walk_at "go"
              exact wait ⟨_, (show (sz - r * 1000000007).toNat < (sz - r).toNat by omega), rfl, _, _, rfl, by omega, rfl⟩
            · have m := fmod_pos (i := f) (j := sz) s0
              walk_at "go"
              exact q _ _ m.1 m.2 ⟨⟨gs1, ls, d1, hb1, hg1, hl1, d10, g10, lg1, ll, nbg, nbl, ngl⟩, by omega⟩ k1
theorem ok__law_box (T : Txt K mg a) : FnOk P w K mg base CX0 1 a.f__law_box a.d__law_box ["_law_script"] (spBox K) := by
  refine T.F__law_box.ok sc__law_box (fun vs H Q E h => ?_) (fun cdv A outer s H vs Q E hr h => ?_)
  · obtain ⟨c, ns, rfl, _⟩ := h
    rfl
  · obtain ⟨c, ns, rfl, hS, hl, q⟩ := h
    refine ⟨_, (pss_cons (ps_setLc (i := 1) (own := [("_law_cell", 2)]) (g := gName 2) rfl sc__law_box.nd rfl rfl (sw_true rfl rfl rfl (by decide +kernel)) (pi_list (pv 0)) (blkOk_by (own := [("_law_cell", 2)]) (N := n__law_box) (sc := defScope s__law_box) (by decide +kernel)) (fun _ _ _ _ _ => (pg_name (i := 2) sc__law_box.nd rfl (Or.inl rfl))) (fun _ _ _ _ _ => (pts_one (pt_cmpR op_ge (pv 2) (pe_op op_pow pe_int pe_int) (nomark _)))) (fun _ _ _ _ _ => (pv 2)))
      (pss_one (ps_ret (pe_lst (pa_cons (pv 1) (pa_cons pe_int (pa_cons (pe_lc (own := [("_law_cell", 2)]) (g := gName 2) rfl sc__law_box.nd (pi_list (pv 0)) (blkOk_by (own := [("_law_cell", 2)]) (N := n__law_box) (sc := defScope s__law_box) (by decide +kernel)) (fun _ _ _ _ _ => (pg_name (i := 2) sc__law_box.nd rfl (Or.inl rfl))) (fun _ _ _ _ _ => (pts_one (pt_cmpR op_lt (pv 2) (pe_op op_pow pe_int pe_int) (nomark _)))) (fun _ _ _ _ _ => (pv 2))) (pa_cons pe_int pa_nil)))))))), ?_⟩
    walk_at "go"
    intro D hD
    refine lcL (K := K) (a := c) (xs := ns.map V.int) (fun i H' => H' D = some (.lst (((ns.take i).filter fun z => decide ((10 : Int) ^ 18 ≤ z)).map V.int)) ∧ Same H H') ?_ ?_ ?_ ?_
    · exact ⟨upd_same, fun x o e => by rw [upd_ne (ne_of_none e hD)]; exact e⟩
    · exact fun i H' _ h => h.2.seq hS
    · rintro i y H' hi ⟨h1, h2⟩
      obtain ⟨u, rfl, hu, _⟩ := ints_at hi
      have hlen := filt_len (fun z => decide ((10 : Int) ^ 18 ≤ z)) ns i
      refine ⟨rfl, ?_⟩
      walk_at "go"
      refine ifD (fun p => ?_) (fun p => ?_)
      · walk_at "go"
        refine ⟨small_lt (by rw [List.length_map]; omega), wait ⟨?_, fun x o e => ?_⟩⟩
        · rw [upd_same, take_filt_yes hu (decide_eq_true p), List.map_append] <;> rfl
        · rw [upd_ne (ne_of_none e hD)]
          exact h2 x o e
      · refine wait ⟨?_, h2⟩
        rw [take_filt_no hu (decide_eq_false p)]
        exact h1
    · rintro H1 ⟨h1, s1⟩
      rw [List.length_map, List.take_length] at h1
      have hS1 := s1.seq hS
      walk_at "go"
      intro L hL
      refine lcL (K := K) (a := c) (xs := ns.map V.int) (fun i H' => H' L = some (.lst (((ns.take i).filter fun z => decide (z < (10 : Int) ^ 18)).map V.int)) ∧ Same H1 H') ?_ ?_ ?_ ?_
      · exact ⟨upd_same, fun x o e => by rw [upd_ne (ne_of_none e hL)]; exact e⟩
      · exact fun i H' _ h => h.2.seq hS1
      · rintro i y H' hi ⟨g1, g2⟩
        obtain ⟨u, rfl, hu, _⟩ := ints_at hi
        have hlen := filt_len (fun z => decide (z < (10 : Int) ^ 18)) ns i
        refine ⟨rfl, ?_⟩
        walk_at "go"
        refine ifD (fun p => ?_) (fun p => ?_)
        · walk_at "go"
          refine ⟨small_lt (by rw [List.length_map]; omega), wait ⟨?_, fun x o e => ?_⟩⟩
          · rw [upd_same, take_filt_yes hu (decide_eq_true p), List.map_append] <;> rfl
          · rw [upd_ne (ne_of_none e hL)]
            exact g2 x o e
        · refine wait ⟨?_, g2⟩
          rw [take_filt_no hu (decide_eq_false p)]
          exact g1
      · rintro H2 ⟨g1, s2⟩
        rw [List.length_map, List.take_length] at g1
        refine ⟨(by show 4 ≤ sizeLine; decide), fun b hb => ?_⟩
        have hD2 := s2 _ _ h1
        have nbD : b ≠ D := fun z => by rw [z, hD2] at hb; cases hb
        have nbL : b ≠ L := fun z => by rw [z, g1] at hb; cases hb
        have nDL : D ≠ L := ne_of_none h1 hL
        have s12 : Same H (upd H2 b (.lst [.ref D, .int 0, .ref L, .int 0])) := fun x o e => by
          have e2 := s2 _ _ (s1 _ _ e)
          rw [upd_ne (ne_of_none e2 hb)]
          exact e2
        refine q b D L _ ((s1.trans s2).free hb) hD (s1.free hL) ⟨⟨_, _, 0, upd_same, upd_get nbD.symm hD2, upd_get nbL.symm g1, by decide, fun z hz => ?_, ?_, ?_, nbD, nbL, nDL⟩, by decide⟩ s12
        · have := (List.mem_filter.mp hz).2
          have p : (10 : Int) ^ 18 ≤ z := of_decide_eq_true this
          omega
        · exact Nat.le_trans (List.length_filter_le _ _) hl
        · exact Nat.le_trans (List.length_filter_le _ _) hl
/-! ### names -/
structure IsName (w : Str) : Prop where
  lo : 1 ≤ w.length
  hi : w.length ≤ 8
  cs : ∀ c ∈ w.cps.toList, 97 ≤ c ∧ c ≤ 122
theorem abc_cps : (Str.ofString "abcdefghijklmnopqrstuvwxyz").cps.toList = (List.range 26).map (97 + ·) := by decide +kernel
theorem abc_at {r : Int} (h0 : 0 ≤ r) (h1 : r < 26) : ∃ c, atI (Str.ofString "abcdefghijklmnopqrstuvwxyz").cps.toList r = some c ∧ 97 ≤ c ∧ c ≤ 122 := by
  obtain ⟨v, e1, e2⟩ := atI_in (xs := (Str.ofString "abcdefghijklmnopqrstuvwxyz").cps.toList) (i := r) h0 (by rw [abc_cps]; exact h1)
  refine ⟨v, e1, ?_⟩
  have := List.mem_of_getElem? e2
  rw [abc_cps] at this
  obtain ⟨k, hk, rfl⟩ := List.mem_map.mp this
  have := List.mem_range.mp hk
  omega
theorem abc_len : (Str.ofString "abcdefghijklmnopqrstuvwxyz").length ≤ sizeLine := by decide +kernel
theorem joinL_one : ∀ cs : List Nat, TL.joinL [] (cs.map fun c => [c]) = cs
  | [] => rfl
  | [_] => rfl
  | c :: d :: r => by
    show [c] ++ ([] ++ TL.joinL [] ((d :: r).map fun c => [c])) = _
    rw [joinL_one (d :: r)] <;> rfl
theorem joined_one (cs : List Nat) : (Txt.join (Str.ofString "") (cs.map fun c => (⟨#[c]⟩ : Str))).cps.toList = cs := by
  rw [TL.join_eq]
  have := TL.tl_join (Str.ofString "") (cs.map fun c => (⟨#[c]⟩ : Str))
  rw [List.map_map] at this
  refine Eq.trans (Eq.trans this ?_) (joinL_one cs)
  rfl
def spName : Sp := fun vs H Q _ => ∃ (b g l : Addr) (n : Int), vs = [.ref b] ∧ BoxAt H b g l n ∧ n ≤ 900000 ∧
  ∀ (w : Str) (n' : Int) (H' : Hp), IsName w → BoxAt H' b g l n' → n' ≤ n + 10 → Keep2 b g H H' → Q (.str w) H'
theorem ok__law_name (T : Txt K mg a) : FnOk P w K mg base CX0 3 a.f__law_name a.d__law_name ["_law_box_here"] spName := by
  have G__law_take := ok__law_take (P := P) (w := w) (base := base) T
  refine T.F__law_name.ok sc__law_name (fun vs H Q E h => ?_) (fun cdv A outer s H vs Q E hr h => ?_)
  · obtain ⟨b, g, l, n, rfl, _⟩ := h
    rfl
  · obtain ⟨b, g, l, n, rfl, B, hn, q⟩ := h
    refine ⟨_, (pss_cons (ps_set (i := 1) sc__law_name.nd rfl (Or.inl rfl) (pe_op op_add pe_int (pe_call G__law_take (hr.mono (by decide)) rfl T.m__law_take T.F__law_take.kp T.b__law_take .nil pass0 (pa_cons (pv 0) (pa_cons (pe_ix ix_list (pe_lst (pa_cons pe_int (pa_cons pe_int (pa_cons pe_int pa_nil)))) (pe_call G__law_take (hr.mono (by decide)) rfl T.m__law_take T.F__law_take.kp T.b__law_take .nil pass0 (pa_cons (pv 0) (pa_cons pe_int pa_nil))) (fun _ _ => rfl)) pa_nil)))))
      (pss_one (ps_ret (pe_join pe_str (pe_lc (own := [("_law_k", 2)]) (g := gName 2) (tt := tYes) rfl sc__law_name.nd (pi_range1 rfl T.z_range (pa_cons (pv 1) pa_nil)) (blkOk_by (own := [("_law_k", 2)]) (N := n__law_name) (sc := defScope s__law_name) (by decide +kernel)) (fun _ _ _ _ _ => (pg_name (i := 2) sc__law_name.nd rfl (Or.inl rfl))) (fun _ _ _ _ _ => pts_nil) (fun _ _ _ _ _ => (pe_ix ix_str pe_str (pe_call G__law_take (hr.mono (by decide)) rfl T.m__law_take T.F__law_take.kp T.b__law_take .nil pass0 (pa_cons (pv 0) (pa_cons pe_int pa_nil))) (fun _ _ => rfl)))))))), ?_⟩
    walk_at "go"
    intro p1 hp1
    have s1 : Same H (upd H p1 (.lst [.int 1, .int 2, .int 8])) := Same.upd_new hp1
    have B1 := B.same s1
    obtain ⟨⟨xb, hb⟩, ⟨xg, hg⟩, _⟩ := B.lists
    refine ⟨_, rfl, b, g, l, n, 3, rfl, B1, by omega, by decide, by decide, fun r1 H2 r10 r11 B2 k2 => ?_⟩
    have hp2 := k2 _ _ (ne_of_none hb hp1).symm (ne_of_none hg hp1).symm upd_same
    obtain ⟨v, e1, e2⟩ := atI_in (xs := [V.int 1, .int 2, .int 8]) (i := r1) r10 r11
    have hm := List.mem_of_getElem? e2
    obtain ⟨sz, rfl, z0, z1⟩ : ∃ sz : Int, v = .int sz ∧ 0 < sz ∧ sz ≤ 8 := by
      simp only [List.mem_cons, List.not_mem_nil, or_false] at hm
      rcases hm with rfl | rfl | rfl
      · exact ⟨_, rfl, by decide, by decide⟩
      · exact ⟨_, rfl, by decide, by decide⟩
      · exact ⟨_, rfl, by decide, by decide⟩
    walk_at "go"
    intro r2 H3 r20 r21 B3 k3
    walk_at "go"
    intro D hD
    refine lcR (lo := 0) (n := (1 + r2).toNat) (fun i H' => ∃ cs : List Nat, cs.length = i ∧ (∀ c ∈ cs, 97 ≤ c ∧ c ≤ 122) ∧ H' D = some (.lst (cs.map fun c => V.str ⟨#[c]⟩)) ∧ BoxAt H' b g l (n + 1 + 1 + i) ∧ (∀ x o, x ≠ b → x ≠ g → x ≠ D → H3 x = some o → H' x = some o)) ?_ ?_ ?_
    · refine ⟨[], rfl, (fun _ h => nomatch h), upd_same, ?_, fun x o _ _ h3 e => upd_get h3 e⟩
      have := B3.same (Same.upd_new (o := .lst []) hD)
      rw [show n + 1 + 1 + ((0 : Nat) : Int) = n + 1 + 1 by omega]
      exact this
    · rintro i H' hi ⟨cs, hl, hc, h1, B', k'⟩
      have nD := B3.fresh hD
      have al := abc_len
      refine ⟨rfl, ?_⟩
      walk_at "go"
      intro r4 H4 r40 r41 B4 k4
      obtain ⟨c, e4, c0, c1⟩ := abc_at r40 r41
      have h4 := k4 _ _ nD.1 nD.2.1 h1
      walk_at "go"
      refine ⟨small_lt (by rw [List.length_map]; omega), wait ⟨cs ++ [c], by rw [List.length_append, hl] <;> rfl, fun d hd => ?_, ?_, ?_, fun x o n1 n2 n3 e => upd_get n3 (k4 x o n1 n2 (k' x o n1 n2 n3 e))⟩⟩
      · rcases List.mem_append.mp hd with z | z
        · exact hc d z
        · rw [List.mem_singleton.mp z]; exact ⟨c0, c1⟩
      · rw [upd_same, List.map_append] <;> rfl
      · rw [show n + 1 + 1 + ((i + 1 : Nat) : Int) = n + 1 + 1 + (i : Int) + 1 by omega]
        exact B4.upd nD
    · rintro H' ⟨cs, hl, hc, h1, B', k'⟩
      have nD := B3.fresh hD
      have hlen : cs.length ≤ 8 := by omega
      have hsum : ((cs.map fun c => (⟨#[c]⟩ : Str)).map (·.length)).sum + (cs.map fun c => (⟨#[c]⟩ : Str)).length * (Str.ofString "").length ≤ 16777216 := by
        rw [List.map_map, show ((·.length) ∘ fun c => (⟨#[c]⟩ : Str)) = fun _ => 1 from rfl, List.map_const', List.sum_replicate_nat, List.length_map]
        show cs.length * 1 + cs.length * 0 ≤ _
        omega
      refine ⟨_, D, cs.map fun c => (⟨#[c]⟩ : Str), rfl, rfl, .inl (SqL.of ?_), hsum, ?_⟩
      · rw [List.map_map]; exact h1
      · refine q _ _ _ ⟨?_, ?_, ?_⟩ B' (by omega) ?_
        · rw [TL.len_tl, TL.tl, joined_one]; omega
        · rw [TL.len_tl, TL.tl, joined_one]; omega
        · rw [joined_one]; exact hc
        · intro x o n1 n2 e
          have e3 := k3 x o n1 n2 (k2 x o n1 n2 (s1 x o e))
          exact k' x o n1 n2 (ne_of_none e3 hD) e3
end
end Pf
set_option Elab.async false
set_option linter.all false
set_option maxRecDepth 100000
set_option maxHeartbeats 4000000
namespace Pf
open PySem L2
local macro_rules | `(tactic| walk_at "nz") => `(tactic| (show (_ : Int) ≠ 0; omega))
local macro_rules | `(tactic| walk_at "ne") => `(tactic| first | assumption | (apply Ne.symm; assumption))
local macro_rules | `(tactic| walk_at "hp") => `(tactic| first | assumption | exact upd_same | (refine upd_get ?_ ?_; walk_at "ne"; walk_at "hp"))
local macro_rules | `(tactic| walk_at "sd") => `(tactic| first
  | (with_reducible show (_ : Int) < _; omega)
  | (with_reducible show (_ : Int) ≤ _; omega)
  | (with_reducible show (_ : Nat) < _; omega)
  | (with_reducible show (_ : Nat) ≤ _; omega)
  | rfl
  | assumption
  | exact kV_int _
  | exact kV_str _
  | (show (_ : Int) ≠ 0; omega)
  | exact SqL.of (by walk_at "hp")
  | exact ⟨_, SqL.of (by walk_at "hp")⟩
  | exact ⟨_, SqT.of (by walk_at "hp")⟩
  | exact ⟨_, (by assumption)⟩
  | exact SqT.of (by walk_at "hp")
  | exact Rd.of (by walk_at "hp")
  | exact Or.inl (SqL.of (by walk_at "hp"))
  | exact Or.inr (SqT.of (by walk_at "hp"))
  | exact Or.inr (by assumption)
  | (walk_at "hp")
  | (exact Or.inl ⟨rfl, _, SqL.of (by walk_at "hp")⟩)
  | (exact Or.inl ⟨by omega, by omega⟩)
  | (exact Or.inr ⟨by omega, by omega⟩)
  | (refine ⟨?_, ?_, ?_⟩ <;> omega)
  | omega
  | (exact small_le (by first | omega | (simp only [List.length_cons, List.length_nil]; omega)))
  | (exact small_lt (by first | omega | (simp only [List.length_cons, List.length_nil]; omega)))
  | exact Nat.le_of_ble_eq_true rfl
  | exact ⟨_, rfl⟩
  | decide)
local macro_rules | `(tactic| walk_at "st") => `(tactic| first
  | with_reducible refine sq_seq ?_
  | apply Exists.intro
  | (refine And.intro ?_ ?_; (walk_at "sd")))
local macro_rules | `(tactic| walk_at "go") => `(tactic| repeat (walk_at "st"))
section
variable {P : Program} {w : World} {K : PySem.W.Frag} {mg : Str → Option Value} {base : Heap} {a : Ad}
theorem nodup_sub_len {α : Type} [DecidableEq α] : ∀ {l m : List α}, l.Nodup → (∀ x ∈ l, x ∈ m) → l.length ≤ m.length
  | [], _, _, _ => Nat.zero_le _
  | a :: r, m, hn, hs => by
    rw [List.nodup_cons] at hn
    have ha := hs a List.mem_cons_self
    have h1 := nodup_sub_len (l := r) (m := m.erase a) hn.2 fun x hx => by
      have hne : x ≠ a := fun z => hn.1 (z ▸ hx)
      exact (List.mem_erase_of_ne hne).mpr (hs x (List.mem_cons_of_mem _ hx))
    rw [List.length_erase_of_mem ha] at h1
    have := List.length_pos_of_mem ha
    rw [List.length_cons]
    omega
theorem flat_strs1 (ys : List Str) : (ys.map V.str).all flatV = true := by
  rw [List.all_map]
  exact List.all_eq_true.mpr fun _ _ => rfl
theorem nodup_snoc {α : Type} {l : List α} {x : α} (h : l.Nodup) (hx : x ∉ l) : (l ++ [x]).Nodup := by
  rw [List.nodup_append]
  refine ⟨h, List.nodup_cons.mpr ⟨(fun z => nomatch z), List.nodup_nil⟩, fun y hy z hz => ?_⟩
  rw [List.mem_singleton.mp hz]
  exact fun e => hx (e ▸ hy)
theorem in_strs (x : Str) (ws : List Str) : inV (.str x) (ws.map V.str) = decide (x ∈ ws) := by
  unfold inV
  rw [List.any_map]
  induction ws with
  | nil => rfl
  | cons y r ih =>
    rw [List.any_cons, ih]
    show ((y == x) || _) = _
    by_cases h : y = x
    · subst h; simp
    · have h2 : ¬ x = y := fun z => h z.symm
      simp [h, h2]
theorem name_app {u : Str} {c : Nat} (h : IsName u) (h1 : 97 ≤ c) (h2 : c ≤ 122) : IsName (cutS u none (some 7) ++ (⟨#[c]⟩ : Str)) := by
  have e : TL.tl (cutS u none (some 7) ++ (⟨#[c]⟩ : Str)) = (TL.tl u).take (min 7 u.length) ++ [c] := by
    rw [TL.tl_append]
    rfl
  have hl := TL.len_tl (cutS u none (some 7) ++ (⟨#[c]⟩ : Str))
  rw [e, List.length_append, List.length_take] at hl
  have h8 := h.hi
  have hu := TL.len_tl u
  refine ⟨by rw [hl]; exact Nat.le_add_left _ _, ?_, fun d hd => ?_⟩
  · rw [hl]
    show _ + 1 ≤ 8
    omega
  · have hd2 : d ∈ (TL.tl u).take (min 7 u.length) ++ [c] := by rw [← e]; exact hd
    rcases List.mem_append.mp hd2 with z | z
    · exact h.cs d (List.mem_of_mem_take z)
    · rw [List.mem_singleton.mp z]; exact ⟨h1, h2⟩
abbrev spares : List Str := ["q", "qa", "qb", "qc", "qd", "qe", "qf", "qg", "qh", "qi", "qj", "qk", "ql", "qm", "qn", "qo"]
theorem spares_nd : spares.Nodup := by decide +kernel
theorem isName_dec {w : Str} (h : (decide (1 ≤ w.length) && decide (w.length ≤ 8) && w.cps.toList.all fun c => decide (97 ≤ c) && decide (c ≤ 122)) = true) : IsName w := by
  rw [Bool.and_eq_true, Bool.and_eq_true, List.all_eq_true] at h
  refine ⟨of_decide_eq_true h.1.1, of_decide_eq_true h.1.2, fun c hc => ?_⟩
  have := h.2 c hc
  rw [Bool.and_eq_true] at this
  exact ⟨of_decide_eq_true this.1, of_decide_eq_true this.2⟩
theorem spares_ok : ∀ w ∈ spares, IsName w := by
  have h : (spares.all fun w => (decide (1 ≤ w.length) && decide (w.length ≤ 8) && w.cps.toList.all fun c => decide (97 ≤ c) && decide (c ≤ 122))) = true := by decide +kernel
  intro w hw
  exact isName_dec (List.all_eq_true.mp h w hw)
def spNames : Sp := fun vs H Q _ => ∃ (b g l : Addr) (n m : Int), vs = [.ref b, .int m] ∧ BoxAt H b g l n ∧ n ≤ 800000 ∧ 0 ≤ m ∧ m ≤ 16 ∧
  ∀ (D : Addr) (ws : List Str) (n' : Int) (H' : Hp), (ws.length : Int) = m → ws.Nodup → (∀ w ∈ ws, IsName w) → H D = none → H' D = some (.lst (ws.map V.str)) → BoxAt H' b g l n' → n' ≤ n + 12 * m → Keep2 b g H H' → Q (.ref D) H'
theorem ok__law_names (T : Txt K mg a) : FnOk P w K mg base CX0 4 a.f__law_names a.d__law_names ["_law_box_here", "_law_many"] spNames := by
  have G__law_take := ok__law_take (P := P) (w := w) (base := base) T
  have G__law_name := ok__law_name (P := P) (w := w) (base := base) T
  refine T.F__law_names.ok sc__law_names (fun vs H Q E h => ?_) (fun cdv A outer s H vs Q E hr h => ?_)
  · obtain ⟨b, g, l, n, m, rfl, _⟩ := h
    rfl
  · obtain ⟨b, g, l, n, m, rfl, B, hn, m0, m1, q⟩ := h
    refine ⟨_, (pss_cons (ps_set (i := 2) sc__law_names.nd rfl (Or.inl rfl) (pe_lst pa_nil))
      (pss_cons (ps_stop (ps_for PassesOwn.never rfl (pi_wait (pi_range1 rfl T.z_range (pa_cons (pv 1) pa_nil))) (pg_name (i := 3) sc__law_names.nd rfl (Or.inl rfl)) (pss_cons (ps_set (i := 4) sc__law_names.nd rfl (Or.inl rfl) (pe_call G__law_name (hr.mono (by decide)) rfl T.m__law_name T.F__law_name.kp T.b__law_name .nil pass0 (pa_cons (pv 0) pa_nil)))
      (pss_mid (ps_if (PW.pt (pw_and (pt_cmpR op_gt (pe_callB call_lenK (by rfl) T.z_len PySem.boot_len (pa_cons (pv 2) pa_nil)) pe_int (nomark _)) (pw_and1 (pt_cmpR op_eq (pe_call G__law_take (hr.mono (by decide)) rfl T.m__law_take T.F__law_take.kp T.b__law_take .nil pass0 (pa_cons (pv 0) (pa_cons pe_int pa_nil))) pe_int (nomark _))))) (pss_one (ps_set (i := 4) sc__law_names.nd rfl (Or.inl rfl) (pe_op op_add_str (pe_slice sl_str (pe_ix ix_list (pv 2) (pe_un un_neg pe_int) (fun _ _ => rfl)) po_none (po_some pe_int)) (pe_ix ix_str pe_str (pe_call G__law_take (hr.mono (by decide)) rfl T.m__law_take T.F__law_take.kp T.b__law_take .nil pass0 (pa_cons (pv 0) (pa_cons pe_int pa_nil))) (fun _ _ => rfl))))) pss_nil)
      (pss_cons (ps_stop (ps_for PassesOwn.never rfl (pi_wait (pi_list (by exact (pe_lst (pa_cons pe_str (pa_cons pe_str (pa_cons pe_str (pa_cons pe_str (pa_cons pe_str (pa_cons pe_str (pa_cons pe_str (pa_cons pe_str (pa_cons pe_str (pa_cons pe_str (pa_cons pe_str (pa_cons pe_str (pa_cons pe_str (pa_cons pe_str (pa_cons pe_str (pa_cons pe_str pa_nil)))))))))))))))))))) (pg_name (i := 5) sc__law_names.nd rfl (Or.inl rfl)) (pss_one (ps_if (pt_cmpR op_in_seq (pv 4) (pv 2) (by rfl)) (pss_one (ps_set (i := 4) sc__law_names.nd rfl (Or.inl rfl) (pv 5))) pss_nil))))
      (pss_one (ps_expr (pe_bm PySem.F.plainAttrs_list PySem.F.slot_list_append PySem.F.type_list_append mt_append (pv 2) (pa_cons (pv 4) pa_nil)))))))))
      (pss_one (ps_ret (pv 2))))), ?_⟩
    refine ⟨Nat.zero_le _, fun D hD => ?_⟩
    have nD := B.fresh hD
    refine stop_in ⟨_, rfl, m, rfl, by omega, by omega, ?_⟩
    refine wait ?_
    refine forR (lo := 0) (n := m.toNat) (fun i σ H' => ∃ (u3 u4 u5 : Option V) (ws : List Str) (n' : Int), σ = [some (.ref b), some (.int m), some (.ref D), u3, u4, u5] ∧ ws.length = i ∧ ws.Nodup ∧ (∀ w ∈ ws, IsName w) ∧ H' D = some (.lst (ws.map V.str)) ∧
      BoxAt H' b g l n' ∧ n' ≤ n + 12 * i ∧ (∀ x o, x ≠ b → x ≠ g → x ≠ D → H x = some o → H' x = some o)) ?_ ?_ ?_
    · exact ⟨_, _, _, [], n, rfl, rfl, .nil, (fun _ h => nomatch h), upd_same, B.upd nD, by omega, fun x o _ _ h3 e => upd_get h3 e⟩
    · rintro i σ H1 hi ⟨u3, u4, u5, ws, n1, rfl, hl, hd, hw, h1, B1, hn1, k1⟩
      walk_at "go"
      intro w2 n2 H2 hw2 B2 hn2 k2
      have h2 := k2 _ _ nD.1 nD.2.1 h1
      refine mid_of (fun σ H3 => ∃ (w3 : Str) (n3 : Int), σ = [some (.ref b), some (.int m), some (.ref D), some (.int (0 + i)), some (.str w3), u5] ∧ IsName w3 ∧ BoxAt H3 b g l n3 ∧ n3 ≤ n2 + 2 ∧ Keep2 b g H2 H3) ?_ ?_
      · walk_at "go"
        refine ifD (fun e => ?_) (fun _ => ?_)
        · walk_at "go"
          intro r3 H3 r30 r31 B3 k3
          have h3 := k3 _ _ nD.1 nD.2.1 h2
          walk_at "go"
          refine ifD (fun _ => ?_) (fun _ => ?_)
          · have e2 : 0 < ws.length := by rw [List.length_map] at e; omega
            obtain ⟨u, hu⟩ : ∃ u, ws[ws.length - 1]? = some u := ⟨_, List.getElem?_eq_getElem (by omega)⟩
            have hix : atI (ws.map V.str) (-1) = some (.str u) := by
              unfold atI ixN
              rw [List.length_map, if_neg (by decide), if_pos (by omega), Option.bind_some, List.getElem?_map, show ((-1 : Int) + (ws.length : Int)).toNat = ws.length - 1 by omega, hu] <;> rfl
            have hun := hw u (List.mem_of_getElem? hu)
            have hul : u.length ≤ sizeLine := small_le (by have := hun.hi; omega)
            have al := abc_len
            walk_at "go"
            intro r4 H4 r40 r41 B4 k4
            obtain ⟨c, e4, c0, c1⟩ := abc_at r40 r41
            have hnn := name_app hun c0 c1
            have hln : (cutS u none (some 7)).length + (⟨#[c]⟩ : Str).length ≤ sizeLine := small_le (by
              have := cutS_length u none (some 7)
              have := hun.hi
              show _ + 1 ≤ _
              omega)
            walk_at "go"
            exact wait ⟨_, _, rfl, hnn, B4, by omega, k3.trans k4⟩
          · exact wait ⟨_, _, rfl, hw2, B3, by omega, k3⟩
        · refine ifF rfl ?_
          exact wait ⟨_, _, rfl, hw2, B2, by omega, Keep2.refl _ _ _⟩
      · rintro σ H3 ⟨w3, n3, rfl, hw3, B3, hn3, k3⟩
        have h3 := k3 _ _ nD.1 nD.2.1 h2
        refine sq_seq (stop_in ⟨by decide, fun L hL => ⟨L, rfl, ⟨_, SqL.of upd_same⟩, ?_⟩⟩)
        have nLD : D ≠ L := ne_of_none h3 hL
        refine wait ?_
        refine forL (K := K) (a := L) (xs := spares.map V.str) (fun j σ H4 => H4 = upd H3 L (.lst (spares.map V.str)) ∧ ∃ (w4 : Str) (u5 : Option V), σ = [some (.ref b), some (.int m), some (.ref D), some (.int (0 + i)), some (.str w4), u5] ∧ IsName w4 ∧ (w4 ∉ ws ∨ ∀ v ∈ spares.take j, v ∈ ws)) ?_ ?_ ?_ ?_
        · exact ⟨rfl, w3, u5, rfl, hw3, .inr fun v hv => nomatch hv⟩
        · rintro j σ H4 _ ⟨rfl, _⟩
          exact SqL.of upd_same
        · rintro j x σ H4 hj ⟨rfl, w4, u5', rfl, hw4, hor⟩
          rw [List.getElem?_map] at hj
          obtain ⟨v, hv, rfl⟩ := Option.map_eq_some_iff.mp hj
          have fl := flat_strs1 ws
          have h4 : upd H3 L (.lst (spares.map V.str)) D = some (.lst (ws.map V.str)) := upd_get nLD h3
          refine ⟨_, rfl, _, rfl, D, _, rfl, .inl (SqL.of h4), rfl, fl, ?_⟩
          rw [if_neg (by decide), in_strs]
          refine ⟨_, rfl, ifD (fun e => ?_) (fun e => ?_)⟩
          · walk_at "go"
            refine wait ⟨rfl, v, _, rfl, spares_ok v (List.mem_of_getElem? hv), ?_⟩
            rcases hor with z | z
            · exact absurd e z
            · by_cases y : v ∈ ws
              · refine .inr fun u hu => ?_
                rw [List.take_add_one, hv, Option.toList_some] at hu
                rcases List.mem_append.mp hu with t | t
                · exact z u t
                · rw [List.mem_singleton.mp t]; exact y
              · exact .inl y
          · exact wait ⟨rfl, w4, _, rfl, hw4, .inl e⟩
        · rintro σ H4 ⟨rfl, w4, u5', rfl, hw4, hor⟩
          have h4 : upd H3 L (.lst (spares.map V.str)) D = some (.lst (ws.map V.str)) := upd_get nLD h3
          have hno : w4 ∉ ws := by
            rcases hor with z | z
            · exact z
            · exfalso
              have := nodup_sub_len spares_nd fun v hv => z v (by rw [List.length_map, List.take_length]; exact hv)
              have e16 : spares.length = 16 := rfl
              omega
          have nL := B3.fresh hL
          walk_at "go"
          refine ⟨small_lt (by rw [List.length_map]; omega), wait ⟨_, _, _, ws ++ [w4], n3, rfl, by rw [List.length_append, hl] <;> rfl, ?_, ?_, ?_, (B3.upd nL).upd nD, by omega, ?_⟩⟩
          · exact nodup_snoc hd hno
          · intro x hx
            rcases List.mem_append.mp hx with z | z
            · exact hw x z
            · rw [List.mem_singleton.mp z]; exact hw4
          · rw [upd_same, List.map_append] <;> rfl
          · intro x o a1 a2 a3 e
            have e3 := k3 x o a1 a2 (k2 x o a1 a2 (k1 x o a1 a2 a3 e))
            rw [upd_ne a3, upd_ne (ne_of_none e3 hL)]
            exact e3
    · rintro σ H' ⟨u3, u4, u5, ws, n1, rfl, hl, hd, hw, h1, B1, hn1, k1⟩
      walk_at "go"
      exact q D ws n1 _ (by omega) hd hw hD h1 B1 (by omega) fun x o a1 a2 e => k1 x o a1 a2 (ne_of_none e hD) e
end
end Pf
set_option Elab.async false
set_option linter.all false
set_option maxRecDepth 100000
set_option maxHeartbeats 4000000
namespace Pf
open PySem L2
local macro_rules | `(tactic| walk_at "nz") => `(tactic| (show (_ : Int) ≠ 0; omega))
local macro_rules | `(tactic| walk_at "ne") => `(tactic| first | assumption | (apply Ne.symm; assumption))
local macro_rules | `(tactic| walk_at "hp") => `(tactic| first | assumption | exact upd_same | (refine upd_get ?_ ?_; walk_at "ne"; walk_at "hp"))
local macro_rules | `(tactic| walk_at "sd") => `(tactic| first
  | (with_reducible show (_ : Int) < _; omega)
  | (with_reducible show (_ : Int) ≤ _; omega)
  | (with_reducible show (_ : Nat) < _; omega)
  | (with_reducible show (_ : Nat) ≤ _; omega)
  | rfl
  | assumption
  | exact kV_int _
  | exact kV_str _
  | (show (_ : Int) ≠ 0; omega)
  | exact SqL.of (by walk_at "hp")
  | exact ⟨_, SqL.of (by walk_at "hp")⟩
  | exact ⟨_, SqT.of (by walk_at "hp")⟩
  | exact ⟨_, (by assumption)⟩
  | exact SqT.of (by walk_at "hp")
  | exact Rd.of (by walk_at "hp")
  | exact Or.inl (SqL.of (by walk_at "hp"))
  | exact Or.inr (SqT.of (by walk_at "hp"))
  | exact Or.inr (by assumption)
  | (walk_at "hp")
  | (exact Or.inl ⟨rfl, _, SqL.of (by walk_at "hp")⟩)
  | (exact Or.inl ⟨by omega, by omega⟩)
  | (exact Or.inr ⟨by omega, by omega⟩)
  | (refine ⟨?_, ?_, ?_⟩ <;> omega)
  | omega
  | (exact small_le (by first | omega | (simp only [List.length_cons, List.length_nil]; omega)))
  | (exact small_lt (by first | omega | (simp only [List.length_cons, List.length_nil]; omega)))
  | exact Nat.le_of_ble_eq_true rfl
  | exact ⟨_, rfl⟩
  | decide)
local macro_rules | `(tactic| walk_at "st") => `(tactic| first
  | with_reducible refine sq_seq ?_
  | apply Exists.intro
  | (refine And.intro ?_ ?_; (walk_at "sd")))
local macro_rules | `(tactic| walk_at "go") => `(tactic| repeat (walk_at "st"))
section
variable {P : Program} {w : World} {K : PySem.W.Frag} {mg : Str → Option Value} {base : Heap} {a : Ad}
theorem BoxAt.tups {H H' : Hp} {b g l : Addr} {n : Int} (B : BoxAt H b g l n) (k : Keep2 b g H H') : ∀ t ys, H t = some (.tup ys) → H' t = some (.tup ys) := fun t ys e => by
  obtain ⟨⟨_, h1⟩, ⟨_, h2⟩, _⟩ := B.lists
  exact k _ _ (ne_of e h1 (by intro z; cases z)) (ne_of e h2 (by intro z; cases z)) e
theorem cutV_from (xs : List V) (k : Nat) : cutV xs (some (k : Int)) none = xs.drop k := by
  unfold cutV
  rw [HT.sIx_nat, HT.sIx_none]
  by_cases h : k ≤ xs.length
  · rw [Nat.min_eq_left h, List.take_of_length_le (by rw [List.length_drop] <;> omega)]
  · rw [Nat.min_eq_right (by omega), List.drop_eq_nil_of_le (by omega), List.drop_eq_nil_of_le (by omega), List.take_nil]
theorem cutV_to (xs : List V) (k : Nat) : cutV xs none (some (k : Int)) = xs.take k := by
  unfold cutV
  rw [HT.sIx_nat, HT.sIx_none, List.drop_zero, Nat.sub_zero]
  by_cases h : k ≤ xs.length
  · rw [Nat.min_eq_left h]
  · rw [Nat.min_eq_right (by omega), List.take_of_length_le (by omega), List.take_of_length_le (by omega)]
theorem cutV_f1 (xs : List V) : cutV xs (some 1) none = xs.drop 1 := cutV_from xs 1
theorem cutV_t1 (xs : List V) : cutV xs none (some 1) = xs.take 1 := cutV_to xs 1
theorem drop_take_perm {α : Type} (l : List α) (k : Nat) : (l.drop k ++ l.take k).Perm l := (List.perm_append_comm).trans (by rw [List.take_append_drop])
/-! ### pairs -/
structure Pr where
  near : Str
  far : Str
  laden : Bool
def PrAt (H : Hp) (e : Addr × Pr) : Prop := H e.1 = some (.tup [.str e.2.near, .str e.2.far, .bl e.2.laden])
structure PairsAt (H : Hp) (D : Addr) (L : List (Addr × Pr)) : Prop where
  ls : H D = some (.lst (L.map fun e => V.ref e.1))
  at_ : ∀ e ∈ L, PrAt H e
theorem PairsAt.keep {H H' : Hp} {D : Addr} {L : List (Addr × Pr)} (h : PairsAt H D L) (k : ∀ o, H D = some o → H' D = some o) (kt : ∀ t ys, H t = some (.tup ys) → H' t = some (.tup ys)) : PairsAt H' D L :=
  ⟨k _ h.ls, fun e he => kt _ _ (h.at_ e he)⟩
theorem PairsAt.same {H H' : Hp} {D : Addr} {L : List (Addr × Pr)} (h : PairsAt H D L) (k : Same H H') : PairsAt H' D L := h.keep (fun o e => k _ _ e) fun t ys e => k _ _ e
structure Good (ps : List Pr) : Prop where
  len : ps.length ≤ 6
  nn : (ps.map (·.near)).Nodup
  nf : (ps.map (·.far)).Nodup
  kn : ∀ p ∈ ps, IsName p.near
  kf : ∀ p ∈ ps, IsName p.far
def spPairs : Sp := fun vs H Q _ => ∃ (b g l : Addr) (n m : Int), vs = [.ref b, .int m] ∧ BoxAt H b g l n ∧ n ≤ 700000 ∧ 0 ≤ m ∧ m ≤ 6 ∧
  ∀ (D : Addr) (L : List (Addr × Pr)) (n' : Int) (H' : Hp), Good (L.map (·.2)) → H D = none → PairsAt H' D L → (∀ e ∈ L, H e.1 = none) → BoxAt H' b g l n' → n' ≤ n + 200 → Keep2 b g H H' → Q (.ref D) H'
theorem keep_none {b g : Addr} {H H' : Hp} {x : Addr} (k : Keep2 b g H H') (n1 : x ≠ b) (n2 : x ≠ g) (h : H' x = none) : H x = none := by
  cases z : H x with
  | none => rfl
  | some o => rw [k x o n1 n2 z] at h; cases h
theorem ok__law_pairs (T : Txt K mg a) : FnOk P w K mg base CX0 5 a.f__law_pairs a.d__law_pairs ["_law_box_here", "_law_most"] spPairs := by
  have G__law_take := ok__law_take (P := P) (w := w) (base := base) T
  have G__law_names := ok__law_names (P := P) (w := w) (base := base) T
  refine T.F__law_pairs.ok sc__law_pairs (fun vs H Q E h => ?_) (fun cdv A outer s H vs Q E hr h => ?_)
  · obtain ⟨b, g, l, n, m, rfl, _⟩ := h
    rfl
  · obtain ⟨b, g, l, n, m, rfl, B, hn, m0, m1, q⟩ := h
    refine ⟨_, (pss_cons (ps_set (i := 2) sc__law_pairs.nd rfl (Or.inl rfl) (pe_call G__law_names (hr.mono (by decide)) rfl T.m__law_names T.F__law_names.kp T.b__law_names .nil pass0 (pa_cons (pv 0) (pa_cons (pe_call G__law_take (hr.mono (by decide)) rfl T.m__law_take T.F__law_take.kp T.b__law_take .nil pass0 (pa_cons (pv 0) (pa_cons (pe_op op_add (pv 1) pe_int) pa_nil))) pa_nil))))
      (pss_cons (ps_set (i := 3) sc__law_pairs.nd rfl (Or.inl rfl) (pe_call G__law_names (hr.mono (by decide)) rfl T.m__law_names T.F__law_names.kp T.b__law_names .nil pass0 (pa_cons (pv 0) (pa_cons (pe_callB call_lenK (by rfl) T.z_len PySem.boot_len (pa_cons (pv 2) pa_nil)) pa_nil))))
      (pss_mid (ps_if (pt_cmpR op_eq (pe_call G__law_take (hr.mono (by decide)) rfl T.m__law_take T.F__law_take.kp T.b__law_take .nil pass0 (pa_cons (pv 0) (pa_cons pe_int pa_nil))) pe_int (nomark _)) (pss_one (ps_set (i := 3) sc__law_pairs.nd rfl (Or.inl rfl) (pe_op op_cat (pe_slice sl_list (pv 2) (po_some pe_int) po_none) (pe_slice sl_list (pv 2) po_none (po_some pe_int))))) pss_nil)
      (pss_one (ps_ret (pe_lc (own := [("_law_near", 4), ("_law_far", 5)]) (g := gTup K 2 (gCons (gName 4) (gCons (gName 5) gNil))) (tt := tYes) rfl sc__law_pairs.nd (pi_zip rfl T.z_zip (pa_cons (pv 2) (pa_cons (pv 3) pa_nil))) (blkOk_by (own := [("_law_near", 4), ("_law_far", 5)]) (N := n__law_pairs) (sc := defScope s__law_pairs) (by decide +kernel)) (fun _ _ _ _ _ => (pg_tup rfl (pgs_cons (pg_name (i := 4) sc__law_pairs.nd rfl (Or.inl rfl)) (pgs_cons (pg_name (i := 5) sc__law_pairs.nd rfl (Or.inl rfl)) pgs_nil)))) (fun _ _ _ _ _ => pts_nil) (fun _ _ _ _ _ => (pe_tup (pa_cons (pv 4) (pa_cons (pv 5) (pa_cons (pe_cmpR op_eq (pe_call G__law_take (hr.mono (by decide)) rfl T.m__law_take T.F__law_take.kp T.b__law_take .nil pass0 (pa_cons (pv 0) (pa_cons pe_int pa_nil))) pe_int (nomark _)) pa_nil))))))))))), ?_⟩
    walk_at "go"
    intro r1 H1 r10 r11 B1 k1
    walk_at "go"
    intro N ns n2 H2 hl2 nd2 hn2 hN h2 B2 hb2 k2
    have nN := B1.fresh hN
    have lm : (ns.map V.str).length = ns.length := List.length_map _
    walk_at "go"
    intro F fs n3 H3 hl3 nd3 hn3 hF h3 B3 hb3 k3
    have nF := B2.fresh hF
    have h3N := k3 _ _ nN.1 nN.2.1 h2
    refine mid_of (fun σ H4 => ∃ (F' : Addr) (fs' : List Str) (n4 : Int), σ = [some (.ref b), some (.int m), some (.ref N), some (.ref F'), none, none] ∧ H4 N = some (.lst (ns.map V.str)) ∧ H4 F' = some (.lst (fs'.map V.str)) ∧ fs'.length = ns.length ∧ fs'.Nodup ∧ (∀ w ∈ fs', IsName w) ∧ BoxAt H4 b g l n4 ∧ n4 ≤ n3 + 1 ∧ F' ≠ b ∧ F' ≠ g ∧ Keep2 b g H3 H4) ?_ ?_
    · walk_at "go"
      intro r4 H4 r40 r41 B4 k4
      have h4N := k4 _ _ nN.1 nN.2.1 h3N
      have h4F := k4 _ _ nF.1 nF.2.1 h3
      walk_at "go"
      refine ifD (fun _ => ?_) (fun _ => ?_)
      · walk_at "go"
        intro p5 hp5
        rw [cutV_f1]
        have h5N := Same.upd_new (o := .lst ((ns.map V.str).drop 1)) hp5 _ _ h4N
        have B5 := B4.same (Same.upd_new (o := .lst ((ns.map V.str).drop 1)) hp5)
        walk_at "go"
        intro p6 hp6
        rw [cutV_t1]
        have n56 : p5 ≠ p6 := fun z => by rw [← z, upd_same] at hp6; cases hp6
        have h6N := Same.upd_new (o := .lst ((ns.map V.str).take 1)) hp6 _ _ h5N
        have B6 := B5.same (Same.upd_new (o := .lst ((ns.map V.str).take 1)) hp6)
        have hsz : ((ns.map V.str).drop 1).length + ((ns.map V.str).take 1).length ≤ sizeLine := small_le (by rw [List.length_drop, List.length_take]; omega)
        walk_at "go"
        intro p7 hp7
        have h7N := Same.upd_new (o := .lst ((ns.map V.str).drop 1 ++ (ns.map V.str).take 1)) hp7 _ _ h6N
        have B7 := B6.same (Same.upd_new (o := .lst ((ns.map V.str).drop 1 ++ (ns.map V.str).take 1)) hp7)
        have f7 := B6.fresh hp7
        have pp := drop_take_perm ns 1
        refine wait ⟨p7, ns.drop 1 ++ ns.take 1, _, rfl, h7N, ?_, ?_, ?_, fun x hx => hn2 x (pp.mem_iff.mp hx), B7, by omega, f7.1, f7.2.1, ?_⟩
        · rw [upd_same, List.map_append, List.map_drop, List.map_take]
        · exact pp.length_eq
        · exact pp.nodup_iff.mpr nd2
        · exact k4.trans fun x o _ _ e => Same.upd_new hp7 _ _ (Same.upd_new hp6 _ _ (Same.upd_new hp5 _ _ e))
      · refine wait ⟨F, fs, _, rfl, h4N, h4F, ?_, nd3, hn3, B4, by omega, nF.1, nF.2.1, k4⟩
        rw [List.length_map] at hl3
        omega
    · rintro σ H4 ⟨F', fs', n4, rfl, h4N, h4F, hl4, nd4, hn4, B4, hb4, nF1, nF2, k4⟩
      have lmf : (fs'.map V.str).length = fs'.length := List.length_map _
      have back : ∀ x, H4 x = none → H x = none := fun x hx => by
        have nx := B4.fresh hx
        exact keep_none k1 nx.1 nx.2.1 (keep_none k2 nx.1 nx.2.1 (keep_none k3 nx.1 nx.2.1 (keep_none k4 nx.1 nx.2.1 hx)))
      walk_at "go"
      intro D hD
      have nD := B4.fresh hD
      refine lcW (walk_zip (K := K) (xs := ns.map V.str) (ys := fs'.map V.str) (n := ns.length) (by omega)) (fun i H' => ∃ (L : List (Addr × Pr)) , L.length = i ∧ L.map (·.2.near) = ns.take i ∧ L.map (·.2.far) = fs'.take i ∧ PairsAt H' D L ∧ (∀ e ∈ L, H4 e.1 = none ∧ e.1 ≠ D) ∧ BoxAt H' b g l (n4 + i) ∧ (∀ x o, x ≠ b → x ≠ g → x ≠ D → H4 x = some o → H' x = some o)) ?_ ?_ ?_ ?_
      · exact ⟨[], rfl, rfl, rfl, ⟨upd_same, fun _ h => nomatch h⟩, (fun _ h => nomatch h), by rw [show n4 + ((0 : Nat) : Int) = n4 by omega]; exact B4.upd nD, fun x o _ _ a3 e => upd_get a3 e⟩
      · rintro i H' _ ⟨L, _, _, _, _, _, _, k5⟩
        exact ⟨SqL.of (k5 _ _ nN.1 nN.2.1 (ne_of_none h4N hD) h4N), SqL.of (k5 _ _ nF1 nF2 (ne_of_none h4F hD) h4F)⟩
      · rintro i x H5 H6 hi ⟨L, hL, e1, e2, PA, fr, B5, k5⟩ ⟨t, x1, x2, rfl, ht, rfl, hx1, hx2⟩
        have s6 : Same H5 (upd H5 t (.tup [x1, x2])) := Same.upd_new ht
        have hx1 : (ns.map V.str)[i]? = some x1 := hx1
        have hx2 : (fs'.map V.str)[i]? = some x2 := hx2
        rw [List.getElem?_map] at hx1 hx2
        obtain ⟨u1, hu1, rfl⟩ := Option.map_eq_some_iff.mp hx1
        obtain ⟨u2, hu2, rfl⟩ := Option.map_eq_some_iff.mp hx2
        have B6 := B5.same s6
        walk_at "go"
        intro r7 H7 r70 r71 B7 k7
        walk_at "go"
        intro p8 hp8
        have h7D := k7 _ _ nD.1 nD.2.1 (s6 _ _ PA.ls)
        have s8 : Same H7 (upd H7 p8 (.tup [.str u1, .str u2, .bl (decide (V.int r7 = V.int 1))])) := Same.upd_new hp8
        have n8D : p8 ≠ D := (ne_of_none h7D hp8).symm
        have B8 := B7.same s8
        have PA8 : PairsAt (upd H7 p8 (.tup [.str u1, .str u2, .bl (decide (V.int r7 = V.int 1))])) D L := PA.keep (fun o e => s8 _ _ (k7 _ _ nD.1 nD.2.1 (s6 _ _ e))) fun t ys e => s8 _ _ (B6.tups k7 _ _ (s6 _ _ e))
        have n8 := B7.fresh hp8
        refine ⟨_, s8 _ _ h7D, small_lt (by rw [List.length_map]; omega), wait ⟨L ++ [(p8, ⟨u1, u2, decide (V.int r7 = V.int 1)⟩)], by rw [List.length_append, hL] <;> rfl, ?_, ?_, ⟨?_, ?_⟩, ?_, ?_, ?_⟩⟩
        · rw [List.map_append, e1, List.take_add_one, hu1] <;> rfl
        · rw [List.map_append, e2, List.take_add_one, hu2] <;> rfl
        · rw [upd_same, List.map_append] <;> rfl
        · intro e he
          rcases List.mem_append.mp he with z | z
          · exact upd_get (fr e z).2 (PA8.at_ e z)
          · rw [List.mem_singleton.mp z]
            exact upd_get n8D upd_same
        · intro e he
          rcases List.mem_append.mp he with z | z
          · exact fr e z
          · rw [List.mem_singleton.mp z]
            refine ⟨?_, n8D⟩
            cases y : H4 p8 with
            | none => rfl
            | some o => rw [k7 _ _ n8.1 n8.2.1 (s6 _ _ (k5 _ _ n8.1 n8.2.1 n8D y))] at hp8; cases hp8
        · rw [show n4 + ((i + 1 : Nat) : Int) = n4 + (i : Int) + 1 by omega]
          exact B8.upd nD
        · exact fun x o a1 a2 a3 e => upd_get a3 (s8 _ _ (k7 x o a1 a2 (s6 _ _ (k5 x o a1 a2 a3 e))))
      · rintro H5 ⟨L, hL, e1, e2, PA, fr, B5, k5⟩
        have ef : L.map (fun e => e.2.far) = fs' := by rw [e2, ← hl4, List.take_length]
        rw [List.take_length] at e1
        refine q D L _ _ ⟨?_, ?_, ?_, ?_, ?_⟩ ?_ PA ?_ B5 ?_ ?_
        · rw [List.length_map]; omega
        · rw [List.map_map]; exact e1 ▸ nd2
        · rw [List.map_map]; exact ef ▸ nd4
        · intro p hp
          obtain ⟨e, he, rfl⟩ := List.mem_map.mp hp
          exact hn2 _ (by rw [← e1]; exact List.mem_map.mpr ⟨e, he, rfl⟩)
        · intro p hp
          obtain ⟨e, he, rfl⟩ := List.mem_map.mp hp
          exact hn4 _ (by rw [← ef]; exact List.mem_map.mpr ⟨e, he, rfl⟩)
        · exact back _ hD
        · exact fun e he => back _ (fr e he).1
        · omega
        · intro x o a1 a2 e
          have e4 := k4 x o a1 a2 (k3 x o a1 a2 (k2 x o a1 a2 (k1 x o a1 a2 e)))
          exact k5 x o a1 a2 (ne_of_none e4 hD) e4
end
end Pf
set_option Elab.async false
set_option linter.all false
set_option maxRecDepth 100000
set_option maxHeartbeats 4000000
namespace Pf
open PySem L2
local macro_rules | `(tactic| walk_at "nz") => `(tactic| (show (_ : Int) ≠ 0; omega))
local macro_rules | `(tactic| walk_at "ne") => `(tactic| first | assumption | (apply Ne.symm; assumption))
local macro_rules | `(tactic| walk_at "hp") => `(tactic| first | assumption | exact upd_same | (refine upd_get ?_ ?_; walk_at "ne"; walk_at "hp"))
local macro_rules | `(tactic| walk_at "sd") => `(tactic| first
  | (with_reducible show (_ : Int) < _; omega)
  | (with_reducible show (_ : Int) ≤ _; omega)
  | (with_reducible show (_ : Nat) < _; omega)
  | (with_reducible show (_ : Nat) ≤ _; omega)
  | rfl
  | assumption
  | exact kV_int _
  | exact kV_str _
  | (show (_ : Int) ≠ 0; omega)
  | exact SqL.of (by walk_at "hp")
  | exact ⟨_, SqL.of (by walk_at "hp")⟩
  | exact ⟨_, SqT.of (by walk_at "hp")⟩
  | exact ⟨_, (by assumption)⟩
  | exact SqT.of (by walk_at "hp")
  | exact Rd.of (by walk_at "hp")
  | exact Or.inl (SqL.of (by walk_at "hp"))
  | exact Or.inr (SqT.of (by walk_at "hp"))
  | exact Or.inr (by assumption)
  | (walk_at "hp")
  | (exact Or.inl ⟨rfl, _, SqL.of (by walk_at "hp")⟩)
  | (exact Or.inl ⟨by omega, by omega⟩)
  | (exact Or.inr ⟨by omega, by omega⟩)
  | (refine ⟨?_, ?_, ?_⟩ <;> omega)
  | omega
  | (exact small_le (by first | omega | (simp only [List.length_cons, List.length_nil]; omega)))
  | (exact small_lt (by first | omega | (simp only [List.length_cons, List.length_nil]; omega)))
  | exact Nat.le_of_ble_eq_true rfl
  | exact ⟨_, rfl⟩
  | decide)
local macro_rules | `(tactic| walk_at "st") => `(tactic| first
  | with_reducible refine sq_seq ?_
  | apply Exists.intro
  | (refine And.intro ?_ ?_; (walk_at "sd")))
local macro_rules | `(tactic| walk_at "go") => `(tactic| repeat (walk_at "st"))
section
variable {P : Program} {w : World} {K : PySem.W.Frag} {mg : Str → Option Value} {base : Heap} {a : Ad}
/-! ### Pacts -/
def nameB (w : Str) : Bool := (decide (1 ≤ w.length) && decide (w.length ≤ 8)) && w.cps.toList.all fun c => decide (c ∈ (Str.ofString "abcdefghijklmnopqrstuvwxyz").cps.toList)
theorem mem_abc {c : Nat} : c ∈ (Str.ofString "abcdefghijklmnopqrstuvwxyz").cps.toList ↔ 97 ≤ c ∧ c ≤ 122 := by
  rw [abc_cps, List.mem_map]
  constructor
  · rintro ⟨k, hk, rfl⟩
    have := List.mem_range.mp hk
    omega
  · intro h
    exact ⟨c - 97, List.mem_range.mpr (by omega), by omega⟩
theorem nameB_iff {w : Str} : nameB w = true ↔ IsName w := by
  unfold nameB
  rw [Bool.and_eq_true, Bool.and_eq_true, List.all_eq_true]
  constructor
  · intro h
    exact ⟨of_decide_eq_true h.1.1, of_decide_eq_true h.1.2, fun c hc => mem_abc.mp (of_decide_eq_true (h.2 c hc))⟩
  · intro h
    exact ⟨⟨decide_eq_true h.lo, decide_eq_true h.hi⟩, fun c hc => decide_eq_true (mem_abc.mpr (h.cs c hc))⟩
def spIsName : Sp := fun vs H Q _ => ∃ w : Str, vs = [.str w] ∧ w.length ≤ 100000 ∧ ∀ H', Same H H' → Q (.bl (nameB w)) H'
theorem ok_is_name (T : Txt K mg a) : FnOk P w K mg base CX0 1 a.f_is_name a.d_is_name ["word"] spIsName := by
  refine T.F_is_name.ok sc_is_name (fun vs H Q E h => ?_) (fun cdv A outer s H vs Q E hr h => ?_)
  · obtain ⟨w, rfl, _⟩ := h
    rfl
  · obtain ⟨w, rfl, hl, q⟩ := h
    have hsz : w.length ≤ sizeLine := small_le hl
    refine ⟨_, (pss_one (ps_ret (pe_and (pe_chain op_le op_le pe_int (pe_callB call_len_str (by rfl) T.z_len PySem.boot_len (pa_cons (pv 0) pa_nil)) (pe_globI rfl T.g_MOST)) (pe_one (pe_callB (cr_all rfl) (by rfl) T.z_all (by decide +kernel) (pa_cons (pe_lc (own := [("sign", 1)]) (g := gName 1) (tt := tYes) rfl sc_is_name.nd (pi_str (pv 0)) (blkOk_by (own := [("sign", 1)]) (N := n_is_name) (sc := defScope s_is_name) (by decide +kernel)) (fun _ _ _ _ _ => (pg_name (i := 1) sc_is_name.nd rfl (Or.inl rfl))) (fun _ _ _ _ _ => pts_nil) (fun _ _ _ _ _ => (pe_cmpR op_in_str (pv 1) (pe_globS rfl T.g_LETTERS) rfl))) pa_nil)))))), ?_⟩
    walk_at "go"
    refine ifD (fun h1 => ?_) (fun h1 => ?_)
    · walk_at "go"
      refine ifD (fun h2 => ?_) (fun h2 => ?_)
      · walk_at "go"
        intro D hD
        refine lcW (walk_str (z := w)) (fun i H' => H' D = some (.lst ((((w.cps.toList.take i).map fun c => decide (c ∈ (Str.ofString "abcdefghijklmnopqrstuvwxyz").cps.toList))).map V.bl)) ∧ Same H H') ?_ ?_ ?_ ?_
        · exact ⟨upd_same, Same.upd_new hD⟩
        · exact fun _ _ _ _ => trivial
        · rintro i x H1 _ hi ⟨g1, g2⟩ ⟨rfl, c, hc, rfl⟩
          have hc2 : w.cps.toList[i]? = some c := by rw [Array.getElem?_toList]; exact hc
          have hlt : (w.cps.toList.take i).length ≤ 8 := by
            rw [List.length_take, Array.length_toList]
            have : w.length = w.cps.size := rfl
            omega
          refine ⟨rfl, ?_⟩
          walk_at "go"
          refine ⟨small_lt (by rw [List.length_map, List.length_map]; omega), wait ⟨?_, fun x o e => upd_get (ne_of_none e hD) (g2 x o e)⟩⟩
          rw [upd_same, StrLaws.found_one, List.take_add_one, hc2, List.map_append, List.map_append] <;> rfl
        · rintro H1 ⟨g1, g2⟩
          walk_at "go"
          have e1 : nameB w = ((w.cps.toList.take w.cps.size).map fun c => decide (c ∈ (Str.ofString "abcdefghijklmnopqrstuvwxyz").cps.toList)).all id := by
            rw [List.take_of_length_le (by rw [Array.length_toList] <;> omega), List.all_map]
            unfold nameB
            rw [decide_eq_true (show 1 ≤ w.length by omega), decide_eq_true (show w.length ≤ 8 by omega)] <;> rfl
          rw [← e1]
          exact q _ g2
      · have e1 : nameB w = false := by
          unfold nameB
          rw [decide_eq_false (show ¬ w.length ≤ 8 by omega), Bool.and_false, Bool.false_and]
        rw [← e1]
        exact q _ (fun _ _ e => e)
    · have e1 : nameB w = false := by
        unfold nameB
        rw [decide_eq_false (show ¬ 1 ≤ w.length by omega), Bool.false_and, Bool.false_and]
      refine ⟨_, rfl, ifF rfl ?_⟩
      rw [← e1]
      exact q _ (fun _ _ e => e)
abbrev pf (kp kd : Addr) : List (Str × V) := [(("kept_pairs" : Str), V.ref kp), (("kept_pacts" : Str), V.ref kd)]
structure PactsAt (C : Addr) (H : Hp) (x kp kd : Addr) (L : List (Addr × Pr)) (kvs : List (Key × V)) : Prop where
  ob : ∃ dx, H x = some (.ins C dx (pf kp kd))
  pr : PairsAt H kp L
  pc : H kd = some (.dK kvs)
theorem PactsAt.same {C : Addr} {H H' : Hp} {x kp kd : Addr} {L : List (Addr × Pr)} {kvs : List (Key × V)} (h : PactsAt C H x kp kd L kvs) (k : Same H H') : PactsAt C H' x kp kd L kvs := by
  obtain ⟨dx, ho⟩ := h.ob
  exact ⟨⟨dx, k _ _ ho⟩, h.pr.same k, k _ _ h.pc⟩
def Pr.word (p : Pr) (s : Int) : Str := if s = 0 then p.near else p.far
theorem pr_at (p : Pr) {s : Int} (hs : s = 0 ∨ s = 1) : atI [V.str p.near, .str p.far, .bl p.laden] s = some (.str (p.word s)) := by
  rcases hs with rfl | rfl <;> rfl
theorem pr_at1 (p : Pr) {s : Int} (hs : s = 0 ∨ s = 1) : atI [V.str p.near, .str p.far, .bl p.laden] (1 - s) = some (.str (p.word (1 - s))) := by
  rcases hs with rfl | rfl <;> rfl
def spWords (C : Addr) : Sp := fun vs H Q _ => ∃ (x kp kd : Addr) (L : List (Addr × Pr)) (kvs : List (Key × V)) (s : Int), vs = [.ref x, .int s] ∧ PactsAt C H x kp kd L kvs ∧ (s = 0 ∨ s = 1) ∧ L.length ≤ 10000 ∧
  ∀ D H', H D = none → H' D = some (.lst ((L.map fun e => e.2.word s).map V.str)) → Same H H' → Q (.ref D) H'
theorem ok_Pacts_words_called (T : Txt K mg a) : FnOk P w K mg base CX0 1 a.f_Pacts_words_called a.d_Pacts_words_called ["self", "side"] (spWords a.c_Pacts) := by
  have cl := T.cl_Pacts
  have n1 := T.na_Pacts_kept_pairs
  refine T.F_Pacts_words_called.ok sc_Pacts_words_called (fun vs H Q E h => ?_) (fun cdv A outer s H vs Q E hr h => ?_)
  · obtain ⟨x, kp, kd, L, kvs, s, rfl, _⟩ := h
    rfl
  · obtain ⟨x, kp, kd, L, kvs, s, rfl, PA, hs, hl, q⟩ := h
    obtain ⟨dx, ho⟩ := PA.ob
    have hls := PA.pr.ls
    refine ⟨_, (pss_one (ps_ret (pe_lc (own := [("pair", 2)]) (g := gName 2) (tt := tYes) (te := (tOp (rIxT K) _ _)) rfl sc_Pacts_words_called.nd (pi_list (by exact (pe_fld (pv 0) rfl))) (blkOk_by (own := [("pair", 2)]) (N := n_Pacts_words_called) (sc := defScope s_Pacts_words_called) (by decide +kernel)) (fun _ _ _ _ _ => (pg_name (i := 2) sc_Pacts_words_called.nd rfl (Or.inl rfl))) (fun _ _ _ _ _ => pts_nil) (fun _ _ _ _ _ => (pe_ix ix_tup (pv 2) (pv 1) (fun _ _ => rfl)))))), ?_⟩
    walk_at "go"
    intro D hD
    refine lcL (K := K) (a := kp) (xs := L.map fun e => V.ref e.1) (fun i H' => H' D = some (.lst (((L.take i).map fun e => e.2.word s).map V.str)) ∧ Same H H') ?_ ?_ ?_ ?_
    · exact ⟨upd_same, Same.upd_new hD⟩
    · exact fun i H' _ h => SqL.of (h.2 _ _ hls)
    · rintro i y H' hi ⟨g1, g2⟩
      rw [List.getElem?_map] at hi
      obtain ⟨e, he, rfl⟩ := Option.map_eq_some_iff.mp hi
      have hp : H' e.1 = _ := g2 _ _ (PA.pr.at_ e (List.mem_of_getElem? he))
      have hlt := (List.getElem?_eq_some_iff.mp he).1
      have hat := pr_at e.2 hs
      refine ⟨rfl, ?_⟩
      walk_at "go"
      refine ⟨small_lt (by rw [List.length_map, List.length_map, List.length_take]; omega), wait ⟨?_, fun x o e => upd_get (ne_of_none e hD) (g2 x o e)⟩⟩
      rw [upd_same, List.take_add_one, he, List.map_append, List.map_append] <;> rfl
    · rintro H' ⟨g1, g2⟩
      rw [List.length_map, List.take_length] at g1
      walk_at "go"
      exact q D _ hD g1 g2
end
end Pf
set_option Elab.async false
set_option linter.all false
set_option maxRecDepth 100000
set_option maxHeartbeats 4000000
namespace Pf
open PySem L2
local macro_rules | `(tactic| walk_at "nz") => `(tactic| (show (_ : Int) ≠ 0; omega))
local macro_rules | `(tactic| walk_at "ne") => `(tactic| first | assumption | (apply Ne.symm; assumption))
local macro_rules | `(tactic| walk_at "hp") => `(tactic| first | assumption | exact upd_same | (refine upd_get ?_ ?_; walk_at "ne"; walk_at "hp"))
local macro_rules | `(tactic| walk_at "sd") => `(tactic| first
  | (with_reducible show (_ : Int) < _; omega)
  | (with_reducible show (_ : Int) ≤ _; omega)
  | (with_reducible show (_ : Nat) < _; omega)
  | (with_reducible show (_ : Nat) ≤ _; omega)
  | rfl
  | assumption
  | exact kV_int _
  | exact kV_str _
  | (show (_ : Int) ≠ 0; omega)
  | exact SqL.of (by walk_at "hp")
  | exact ⟨_, SqL.of (by walk_at "hp")⟩
  | exact ⟨_, SqT.of (by walk_at "hp")⟩
  | exact ⟨_, (by assumption)⟩
  | exact SqT.of (by walk_at "hp")
  | exact Rd.of (by walk_at "hp")
  | exact Or.inl (SqL.of (by walk_at "hp"))
  | exact Or.inr (SqT.of (by walk_at "hp"))
  | exact Or.inr (by assumption)
  | (walk_at "hp")
  | (exact Or.inl ⟨rfl, _, SqL.of (by walk_at "hp")⟩)
  | (exact Or.inl ⟨by omega, by omega⟩)
  | (exact Or.inr ⟨by omega, by omega⟩)
  | (refine ⟨?_, ?_, ?_⟩ <;> omega)
  | omega
  | (exact small_le (by first | omega | (simp only [List.length_cons, List.length_nil]; omega)))
  | (exact small_lt (by first | omega | (simp only [List.length_cons, List.length_nil]; omega)))
  | exact Nat.le_of_ble_eq_true rfl
  | exact ⟨_, rfl⟩
  | decide)
local macro_rules | `(tactic| walk_at "st") => `(tactic| first
  | with_reducible refine sq_seq ?_
  | apply Exists.intro
  | (refine And.intro ?_ ?_; (walk_at "sd")))
local macro_rules | `(tactic| walk_at "go") => `(tactic| repeat (walk_at "st"))
section
variable {P : Program} {w : World} {K : PySem.W.Frag} {mg : Str → Option Value} {base : Heap} {a : Ad}
def spPairsM (C : Addr) : Sp := fun vs H Q _ => ∃ (x kp kd : Addr) (L : List (Addr × Pr)) (kvs : List (Key × V)), vs = [.ref x] ∧ PactsAt C H x kp kd L kvs ∧
  ∀ D, H D = none → Q (.ref D) (upd H D (.lst (L.map fun e => V.ref e.1)))
theorem ok_Pacts_pairs (T : Txt K mg a) : FnOk P w K mg base CX0 1 a.f_Pacts_pairs a.d_Pacts_pairs ["self"] (spPairsM a.c_Pacts) := by
  have cl_Pacts := T.cl_Pacts
  have na_Pacts_kept_pairs := T.na_Pacts_kept_pairs
  have na_Pacts_kept_pacts := T.na_Pacts_kept_pacts
  refine T.F_Pacts_pairs.ok sc_Pacts_pairs (fun vs H Q E h => ?_) (fun cdv A outer s H vs Q E hr h => ?_)
  · obtain ⟨x, kp, kd, L, kvs, rfl, _⟩ := h
    rfl
  · obtain ⟨x, kp, kd, L, kvs, rfl, PA, q⟩ := h
    obtain ⟨dx, ho⟩ := PA.ob
    have hls := PA.pr.ls
    refine ⟨_, (pss_one (ps_ret (pe_callTy call_list_of (by rfl) T.z_list (by decide +kernel) (pa_cons (pe_fld (pv 0) rfl) pa_nil)))), ?_⟩
    walk_at "go"
    exact q
def spLenP (C : Addr) : Sp := fun vs H Q _ => ∃ (x kp kd : Addr) (L : List (Addr × Pr)) (kvs : List (Key × V)), vs = [.ref x] ∧ PactsAt C H x kp kd L kvs ∧ Q (.int kvs.length) H
theorem ok_Pacts___len__ (T : Txt K mg a) : FnOk P w K mg base CX0 1 a.f_Pacts___len__ a.d_Pacts___len__ ["self"] (spLenP a.c_Pacts) := by
  have cl_Pacts := T.cl_Pacts
  have na_Pacts_kept_pairs := T.na_Pacts_kept_pairs
  have na_Pacts_kept_pacts := T.na_Pacts_kept_pacts
  refine T.F_Pacts___len__.ok sc_Pacts___len__ (fun vs H Q E h => ?_) (fun cdv A outer s H vs Q E hr h => ?_)
  · obtain ⟨x, kp, kd, L, kvs, rfl, _⟩ := h
    rfl
  · obtain ⟨x, kp, kd, L, kvs, rfl, PA, q⟩ := h
    obtain ⟨dx, ho⟩ := PA.ob
    have hc := PA.pc
    refine ⟨_, (pss_one (ps_ret (pe_callB call_lenD (by rfl) T.z_len PySem.boot_len (pa_cons (pe_fld (pv 0) rfl) pa_nil)))), ?_⟩
    walk_at "go"
    exact q
def fitsP (ps : List Pr) (p : Pr) : Bool := decide (ps.length ≠ 6) && nameB p.near && nameB p.far && decide (p.near ∉ ps.map (·.near)) && decide (p.far ∉ ps.map (·.far))
def spFitsPair (C : Addr) : Sp := fun vs H Q _ => ∃ (x kp kd t : Addr) (L : List (Addr × Pr)) (kvs : List (Key × V)) (p : Pr), vs = [.ref x, .ref t] ∧ PactsAt C H x kp kd L kvs ∧ PrAt H (t, p) ∧ L.length ≤ 10000 ∧ p.near.length ≤ 100000 ∧ p.far.length ≤ 100000 ∧
  ∀ H', Same H H' → Q (.bl (fitsP (L.map (·.2)) p)) H'
theorem ok_Pacts_fits_pair (T : Txt K mg a) : FnOk P w K mg base CX0 2 a.f_Pacts_fits_pair a.d_Pacts_fits_pair ["self", "pair"] (spFitsPair a.c_Pacts) := by
  have G_is_name := ok_is_name (P := P) (w := w) (base := base) T
  have G_Pacts_words_called := ok_Pacts_words_called (P := P) (w := w) (base := base) T
  have cl_Pacts := T.cl_Pacts
  have na_Pacts_kept_pairs := T.na_Pacts_kept_pairs
  have na_Pacts_kept_pacts := T.na_Pacts_kept_pacts
  refine T.F_Pacts_fits_pair.ok sc_Pacts_fits_pair (fun vs H Q E h => ?_) (fun cdv A outer s H vs Q E hr h => ?_)
  · obtain ⟨x, kp, kd, t, L, kvs, p, rfl, _⟩ := h
    rfl
  · obtain ⟨x, kp, kd, t, L, kvs, p, rfl, PA, hp, hl, l1, l2, q⟩ := h
    obtain ⟨dx, ho⟩ := PA.ob
    have hls := PA.pr.ls
    have hp1 : H t = some (.tup [.str p.near, .str p.far, .bl p.laden]) := hp
    have lm : (L.map fun e => V.ref e.1).length = L.length := List.length_map _
    refine ⟨_, (pss_cons (ps_asg (pv 1) (pg_tup rfl (pgs_cons (pg_name (i := 2) sc_Pacts_fits_pair.nd rfl (Or.inl rfl)) (pgs_cons (pg_name (i := 3) sc_Pacts_fits_pair.nd rfl (Or.inl rfl)) (pgs_cons (pg_name (i := 4) sc_Pacts_fits_pair.nd rfl (Or.inl rfl)) pgs_nil)))))
      (pss_cons (ps_if (PW.pt (pw_or (pt_cmpR op_eq (pe_callB call_lenK (by rfl) T.z_len PySem.boot_len (pa_cons (pe_fld (pv 0) rfl) pa_nil)) (pe_globI rfl T.g_MOST_PAIRS) (nomark _)) (pw_or (pt_not (pt_val (pe_call G_is_name (hr.mono (by decide)) rfl T.m_is_name T.F_is_name.kp T.b_is_name .nil pass0 (pa_cons (pv 2) pa_nil)))) (pw_or1 (pt_not (pt_val (pe_call G_is_name (hr.mono (by decide)) rfl T.m_is_name T.F_is_name.kp T.b_is_name .nil pass0 (pa_cons (pv 3) pa_nil)))))))) (pss_one (ps_ret pe_bl)) pss_nil)
      (pss_one (ps_ret (pe_and (pe_cmpR op_notIn_seq (pv 2) (pe_meth (pv 0) T.cl_Pacts T.mt_Pacts_words_called G_Pacts_words_called (hr.mono (by decide)) T.b_Pacts_words_called .nil pass0 (pa_cons pe_int pa_nil)) (by rfl)) (pe_one (pe_cmpR op_notIn_seq (pv 3) (pe_meth (pv 0) T.cl_Pacts T.mt_Pacts_words_called G_Pacts_words_called (hr.mono (by decide)) T.b_Pacts_words_called .nil pass0 (pa_cons pe_int pa_nil)) (by rfl)))))))), ?_⟩
    walk_at "go"
    refine ifD (fun b => ?_) (fun b => ?_)
    · have e6 : L.length = 6 := by have := V.int.inj b; omega
      have ef : fitsP (L.map (·.2)) p = false := by
        unfold fitsP
        rw [decide_eq_false (show ¬ (L.map (·.2)).length ≠ 6 by rw [List.length_map]; exact fun z => z e6)]
        simp
      refine ifT rfl ?_
      walk_at "go"
      rw [← ef]
      exact q _ (fun _ _ e => e)
    · have e6 : (L.map (·.2)).length ≠ 6 := fun z => b (by rw [lm]; rw [List.length_map] at z; rw [z] <;> rfl)
      walk_at "go"
      intro H1 s1
      walk_at "go"
      cases en : nameB p.near with
      | false =>
        have ef : fitsP (L.map (·.2)) p = false := by unfold fitsP; rw [en]; simp
        have qq := q _ s1
        rw [ef] at qq
        walk_at "go"
        exact qq
      | true =>
        walk_at "go"
        intro H2 s2
        walk_at "go"
        cases ef0 : nameB p.far with
        | false =>
          have ef : fitsP (L.map (·.2)) p = false := by unfold fitsP; rw [ef0]; simp
          have qq := q _ (s1.trans s2)
          rw [ef] at qq
          walk_at "go"
          exact qq
        | true =>
          have PA2 := PA.same (s1.trans s2)
          obtain ⟨dx2, ho2⟩ := PA2.ob
          have hs0 : (0 : Int) = 0 ∨ (0 : Int) = 1 := .inl rfl
          have hs1 : (1 : Int) = 0 ∨ (1 : Int) = 1 := .inr rfl
          walk_at "go"
          intro D3 H3 hD3 h3 s3
          refine ⟨D3, _, rfl, .inl (SqL.of h3), rfl, flat_strs1 _, ?_⟩
          rw [if_pos rfl, in_strs]
          have PA3 := PA2.same s3
          obtain ⟨dx3, ho3⟩ := PA3.ob
          by_cases i1 : p.near ∈ L.map fun e => e.2.word 0
          · have ef : fitsP (L.map (·.2)) p = false := by
              unfold fitsP
              rw [decide_eq_false (show ¬ p.near ∉ (L.map (·.2)).map (·.near) by rw [List.map_map]; exact fun z => z i1)]
              simp
            rw [decide_eq_true i1]
            refine ⟨_, rfl, ifF rfl ?_⟩
            rw [← ef]
            exact q _ ((s1.trans s2).trans s3)
          · rw [decide_eq_false i1]
            refine ⟨_, rfl, ifT rfl ?_⟩
            walk_at "go"
            intro D4 H4 hD4 h4 s4
            refine ⟨D4, _, rfl, .inl (SqL.of h4), rfl, flat_strs1 _, ?_⟩
            rw [if_pos rfl, in_strs]
            have ef : fitsP (L.map (·.2)) p = !decide (p.far ∈ L.map fun e => e.2.word 1) := by
              unfold fitsP
              rw [decide_eq_true e6, en, ef0, decide_eq_true (show p.near ∉ (L.map (·.2)).map (·.near) by rw [List.map_map]; exact i1), List.map_map]
              show (true && true && true && true && decide (p.far ∉ L.map fun e => e.2.word 1)) = _
              simp
            rw [← ef]
            exact q _ (((s1.trans s2).trans s3).trans s4)
theorem good_fits {ps : List Pr} {i : Nat} {p : Pr} (G : Good ps) (h : ps[i]? = some p) : fitsP (ps.take i) p = true := by
  have hm := List.mem_of_getElem? h
  have hi := (List.getElem?_eq_some_iff.mp h).1
  have hsplit : ps = ps.take i ++ p :: ps.drop (i + 1) := by
    have := List.take_append_drop i ps
    rw [List.drop_eq_getElem_cons hi] at this
    rw [(List.getElem?_eq_some_iff.mp h).2] at this
    exact this.symm
  have nn := G.nn
  have nf := G.nf
  rw [hsplit, List.map_append, List.nodup_append] at nn nf
  have hl := G.len
  unfold fitsP
  rw [decide_eq_true (show (ps.take i).length ≠ 6 by rw [List.length_take]; omega), nameB_iff.mpr (G.kn p hm), nameB_iff.mpr (G.kf p hm),
    decide_eq_true (show p.near ∉ (ps.take i).map (·.near) from fun z => nn.2.2 _ z _ List.mem_cons_self rfl), decide_eq_true (show p.far ∉ (ps.take i).map (·.far) from fun z => nf.2.2 _ z _ List.mem_cons_self rfl)] <;> rfl
theorem Good.word {L : List (Addr × Pr)} (G : Good (L.map (·.2))) {s : Int} (hs : s = 0 ∨ s = 1) : (L.map fun d => d.2.word s).Nodup := by
  rcases hs with rfl | rfl
  · have := G.nn
    rw [List.map_map] at this
    exact this
  · have := G.nf
    rw [List.map_map] at this
    exact this
end
end Pf
set_option Elab.async false
set_option linter.all false
set_option maxRecDepth 100000
set_option maxHeartbeats 4000000
namespace Pf
open PySem L2
local macro_rules | `(tactic| walk_at "nz") => `(tactic| (show (_ : Int) ≠ 0; omega))
local macro_rules | `(tactic| walk_at "ne") => `(tactic| first | assumption | (apply Ne.symm; assumption))
local macro_rules | `(tactic| walk_at "hp") => `(tactic| first | assumption | exact upd_same | (refine upd_get ?_ ?_; walk_at "ne"; walk_at "hp"))
local macro_rules | `(tactic| walk_at "sd") => `(tactic| first
  | (with_reducible show (_ : Int) < _; omega)
  | (with_reducible show (_ : Int) ≤ _; omega)
  | (with_reducible show (_ : Nat) < _; omega)
  | (with_reducible show (_ : Nat) ≤ _; omega)
  | rfl
  | assumption
  | exact kV_int _
  | exact kV_str _
  | (show (_ : Int) ≠ 0; omega)
  | exact SqL.of (by walk_at "hp")
  | exact ⟨_, SqL.of (by walk_at "hp")⟩
  | exact ⟨_, SqT.of (by walk_at "hp")⟩
  | exact ⟨_, (by assumption)⟩
  | exact SqT.of (by walk_at "hp")
  | exact Rd.of (by walk_at "hp")
  | exact Or.inl (SqL.of (by walk_at "hp"))
  | exact Or.inr (SqT.of (by walk_at "hp"))
  | exact Or.inr (by assumption)
  | (walk_at "hp")
  | (exact Or.inl ⟨rfl, _, SqL.of (by walk_at "hp")⟩)
  | (exact Or.inl ⟨by omega, by omega⟩)
  | (exact Or.inr ⟨by omega, by omega⟩)
  | (refine ⟨?_, ?_, ?_⟩ <;> omega)
  | omega
  | (exact small_le (by first | omega | (simp only [List.length_cons, List.length_nil]; omega)))
  | (exact small_lt (by first | omega | (simp only [List.length_cons, List.length_nil]; omega)))
  | exact Nat.le_of_ble_eq_true rfl
  | exact ⟨_, rfl⟩
  | decide)
local macro_rules | `(tactic| walk_at "st") => `(tactic| first
  | with_reducible refine sq_seq ?_
  | apply Exists.intro
  | (refine And.intro ?_ ?_; (walk_at "sd")))
local macro_rules | `(tactic| walk_at "go") => `(tactic| repeat (walk_at "st"))
section
variable {P : Program} {w : World} {K : PySem.W.Frag} {mg : Str → Option Value} {base : Heap} {a : Ad}
/-! ### helpers -/
structure Hl where
  name : Str
  side : Int
  takes : List Str
  gives : Bool
  throws : List Str
/-- tuples stay -/
def TK (H H' : Hp) : Prop := ∀ t, (∀ ys, H t = some (.tup ys) → H' t = some (.tup ys)) ∧ ∀ o ys, H t = some (.frz o (.tup ys)) → H' t = some (.frz o (.tup ys))
theorem TK.rfl {H : Hp} : TK H H := fun _ => ⟨fun _ e => e, fun _ _ e => e⟩
theorem TK.trans {H H1 H2 : Hp} (x : TK H H1) (y : TK H1 H2) : TK H H2 := fun t => ⟨fun ys e => (y t).1 ys ((x t).1 ys e), fun o ys e => (y t).2 o ys ((x t).2 o ys e)⟩
theorem TK.same {H H' : Hp} (s : Same H H') : TK H H' := fun t => ⟨fun _ e => s _ _ e, fun _ _ e => s _ _ e⟩
/-- no tuple -/
def noT : HO → Prop
  | .tup _ => False
  | .frz _ (.tup _) => False
  | _ => True
theorem TK.of {H H' : Hp} (h : ∀ t o, H t = some o → ¬ noT o → H' t = some o) : TK H H' := fun t => ⟨fun ys e => h _ _ e (fun z => z), fun o ys e => h _ _ e (fun z => z)⟩
theorem TK.upd {H : Hp} {D : Addr} {u o : HO} (h : H D = some u) (hn : noT u) : TK H (upd H D o) := TK.of fun t v e n => upd_get (fun z => by
  subst z
  rw [h] at e
  cases e
  exact n hn) e
theorem TK.lst {H : Hp} {D : Addr} {xs : List V} {o : HO} (h : H D = some (.lst xs)) : TK H (L2.upd H D o) := TK.upd h True.intro
theorem TK.dK {H : Hp} {D : Addr} {xs : List (Key × V)} {o : HO} (h : H D = some (.dK xs)) : TK H (L2.upd H D o) := TK.upd h True.intro
theorem TK.ins {H : Hp} {D C dx : Addr} {fs : List (Str × V)} {o : HO} (h : H D = some (.ins C dx fs)) : TK H (L2.upd H D o) := TK.upd h True.intro
theorem TK.new {H : Hp} {D : Addr} {o : HO} (h : H D = none) : TK H (L2.upd H D o) := TK.same (Same.upd_new h)
theorem BoxAt.tk {H H' : Hp} {b g l : Addr} {n : Int} (B : BoxAt H b g l n) (k : Keep2 b g H H') : TK H H' := TK.of fun t o e nt => by
  obtain ⟨⟨_, h1⟩, ⟨_, h2⟩, _⟩ := B.lists
  refine k _ _ (fun z => ?_) (fun z => ?_) e
  · subst z
    rw [h1] at e
    cases e
    exact nt True.intro
  · subst z
    rw [h2] at e
    cases e
    exact nt True.intro
theorem TK.sq {K : PySem.W.Frag} {H H' : Hp} {a : Addr} {xs : List V} (k : TK H H') (h : SqT K H a xs) : SqT K H' a xs := by
  rcases h with (h | ⟨o, h⟩) | h
  · exact .inl (.inl ((k _).1 _ h))
  · exact .inl (.inr ⟨o, (k _).2 _ _ h⟩)
  · exact .inr h
theorem TK.pairs {H H' : Hp} {D : Addr} {L : List (Addr × Pr)} (k : TK H H') (h : PairsAt H D L) (kd : ∀ o, H D = some o → H' D = some o) : PairsAt H' D L := h.keep kd fun t ys e => (k t).1 ys e
def HlAt (K : PySem.W.Frag) (H : Hp) (e : Addr × Hl) : Prop := ∃ tk th : Addr, H e.1 = some (.tup [.str e.2.name, .int e.2.side, .ref tk, .bl e.2.gives, .ref th]) ∧ SqT K H tk (e.2.takes.map V.str) ∧ SqT K H th (e.2.throws.map V.str)
theorem HlAt.tk {K : PySem.W.Frag} {H H' : Hp} {e : Addr × Hl} (k : TK H H') (h : HlAt K H e) : HlAt K H' e := by
  obtain ⟨tk, th, h1, h2, h3⟩ := h
  exact ⟨tk, th, (k _).1 _ h1, k.sq h2, k.sq h3⟩
structure HelpersAt (K : PySem.W.Frag) (H : Hp) (D : Addr) (M : List (Addr × Hl)) : Prop where
  ls : H D = some (.lst (M.map fun e => V.ref e.1))
  at_ : ∀ e ∈ M, HlAt K H e
theorem HelpersAt.tk {K : PySem.W.Frag} {H H' : Hp} {D : Addr} {M : List (Addr × Hl)} (h : HelpersAt K H D M) (k : TK H H') (kd : ∀ o, H D = some o → H' D = some o) : HelpersAt K H' D M := ⟨kd _ h.ls, fun e he => (h.at_ e he).tk k⟩
theorem HelpersAt.same {K : PySem.W.Frag} {H H' : Hp} {D : Addr} {M : List (Addr × Hl)} (h : HelpersAt K H D M) (k : Same H H') : HelpersAt K H' D M := h.tk (TK.same k) fun o e => k _ _ e
theorem erase_perm {α : Type} : ∀ {l : List α} {k : Nat} {z : α}, l[k]? = some z → (z :: l.eraseIdx k).Perm l
  | [], _, _, h => by simp at h
  | a :: r, 0, z, h => by
    have e : a = z := by simpa using h
    rw [e]
    exact List.Perm.refl _
  | a :: r, k + 1, z, h => by
    have h1 : r[k]? = some z := by simpa using h
    exact (List.Perm.swap a z _).trans ((erase_perm h1).cons a)
theorem erase_map {α β : Type} (f : α → β) : ∀ (l : List α) (k : Nat), (l.map f).eraseIdx k = (l.eraseIdx k).map f
  | [], _ => rfl
  | _ :: _, 0 => rfl
  | a :: r, k + 1 => congrArg (f a :: ·) (erase_map f r k)
/-! ### _law_some -/
def spSome : Sp := fun vs H Q _ => ∃ (b g l D : Addr) (n m : Int) (ws : List Str), vs = [.ref b, .ref D, .int m] ∧ BoxAt H b g l n ∧ n ≤ 800000 ∧ 0 ≤ m ∧ m ≤ 100 ∧ H D = some (.lst (ws.map V.str)) ∧ ws.length ≤ 1000 ∧
  ∀ (R : Addr) (zs rs : List Str) (n' : Int) (H' : Hp), (zs ++ rs).Perm ws → (zs.length : Int) ≤ m → H R = none → H' R = some (.lst (zs.map V.str)) → BoxAt H' b g l n' → n' ≤ n + 1 + m → Keep2 b g H H' → Q (.ref R) H'
theorem ok__law_some (T : Txt K mg a) : FnOk P w K mg base CX0 3 a.f__law_some a.d__law_some ["_law_box_here", "_law_things", "_law_most"] spSome := by
  have G__law_take := ok__law_take (P := P) (w := w) (base := base) T
  have cl_Pacts := T.cl_Pacts
  have na_Pacts_kept_pairs := T.na_Pacts_kept_pairs
  have na_Pacts_kept_pacts := T.na_Pacts_kept_pacts
  refine T.F__law_some.ok sc__law_some (fun vs H Q E h => ?_) (fun cdv A outer s H vs Q E hr h => ?_)
  · obtain ⟨b, g, l, D, n, m, ws, rfl, _⟩ := h
    rfl
  · obtain ⟨b, g, l, D, n, m, ws, rfl, B, hn, m0, m1, hD, hl, q⟩ := h
    have lw : (ws.map V.str).length = ws.length := List.length_map _
    refine ⟨_, (pss_cons (ps_set (i := 3) sc__law_some.nd rfl (Or.inr rfl) (pe_callTy call_list_of (by rfl) T.z_list (by decide +kernel) (pa_cons (pv 1) pa_nil)))
      (pss_one (ps_ret (pe_lc (own := [("_law_k", 4)]) (g := gName 4) (tt := tYes) (te := (tBM K "list" _ _ (tCons (tCall _ _ _ (tCons _ (tCons (tCB (rLenK K) _) tNil))) tNil))) rfl sc__law_some.nd (pi_range1 rfl T.z_range (pa_cons (pe_call G__law_take (hr.mono (by decide)) rfl T.m__law_take T.F__law_take.kp T.b__law_take .nil pass0 (pa_cons (pv 0) (pa_cons (pe_op op_add (pe_callB (call_min2 rfl) (by rfl) T.z_min (by decide +kernel) (pa_cons (pv 2) (pa_cons (pe_callB call_lenK (by rfl) T.z_len PySem.boot_len (pa_cons (pv 3) pa_nil)) pa_nil))) pe_int) pa_nil))) pa_nil)) (blkOk_by (own := [("_law_k", 4)]) (N := n__law_some) (sc := defScope s__law_some) (by decide +kernel)) (fun _ _ _ _ _ => (pg_name (i := 4) sc__law_some.nd rfl (Or.inl rfl))) (fun _ _ _ _ _ => pts_nil) (fun _ _ _ _ _ => (pe_bm PySem.F.plainAttrs_list PySem.F.slot_list_pop PySem.F.type_list_pop mt_popAt (pv 3) (pa_cons (pe_call G__law_take (hr.mono (by decide)) rfl T.m__law_take T.F__law_take.kp T.b__law_take .nil pass0 (pa_cons (pv 0) (pa_cons (pe_callB call_lenK (by rfl) T.z_len PySem.boot_len (pa_cons (pv 3) pa_nil)) pa_nil))) pa_nil))))))), ?_⟩
    walk_at "go"
    intro P hP
    have nP := B.fresh hP
    have s1 : Same H (upd H P (.lst (ws.map V.str))) := Same.upd_new hP
    have B1 := B.same s1
    obtain ⟨H1, e1⟩ : ∃ H1, H1 = upd H P (.lst (ws.map V.str)) := ⟨_, rfl⟩
    rw [← e1] at s1 B1 ⊢
    have hP1 : H1 P = some (.lst (ws.map V.str)) := by rw [e1, upd_same]
    walk_at "go"
    intro r2 H2 r20 r21 B2 k2
    have r2m : r2 ≤ m ∧ r2 ≤ (ws.length : Int) := by
      rw [lw] at r21
      split at r21 <;> omega
    have hP2 := k2 _ _ nP.1 nP.2.1 hP1
    walk_at "go"
    intro R hR
    have nR := B2.fresh hR
    have nPR : P ≠ R := ne_of_none hP2 hR
    refine lcR (lo := 0) (n := r2.toNat) (fun i H' => ∃ zs ps : List Str, zs.length = i ∧ (zs ++ ps).Perm ws ∧ H' R = some (.lst (zs.map V.str)) ∧ H' P = some (.lst (ps.map V.str)) ∧ BoxAt H' b g l (n + 1 + i) ∧ ∀ x o, x ≠ b → x ≠ g → x ≠ R → x ≠ P → H2 x = some o → H' x = some o) ?_ ?_ ?_
    · exact ⟨[], ws, rfl, List.Perm.refl _, upd_same, upd_get nPR hP2, by rw [show n + 1 + ((0 : Nat) : Int) = n + 1 by omega]; exact B2.upd nR, fun x o _ _ a3 _ e => upd_get a3 e⟩
    · rintro i H' hi ⟨zs, ps, hzl, pm, hR3, hP3, B3, k3⟩
      have hpl := pm.length_eq
      rw [List.length_append] at hpl
      have lp : (ps.map V.str).length = ps.length := List.length_map _
      refine ⟨rfl, _, rfl, Or.inl ⟨rfl, _, SqL.of hP3⟩, _, rfl, _, rfl, P, _, rfl, .inl (SqL.of hP3), b, g, l, _, _, rfl, B3, by omega, by omega, by omega, fun r4 H4 r40 r41 B4 k4 => ?_⟩
      have hP4 := k4 _ _ nP.1 nP.2.1 hP3
      have hR4 := k4 _ _ nR.1 nR.2.1 hR3
      have hlt : r4.toNat < ps.length := by omega
      obtain ⟨z, hz⟩ : ∃ z, ps[r4.toNat]? = some z := ⟨_, List.getElem?_eq_getElem hlt⟩
      have hzv : (ps.map V.str)[r4.toNat]? = some (.str z) := by rw [List.getElem?_map, hz] <;> rfl
      have hsi : seqIndex? r4 (ps.map V.str).length = some r4.toNat := seqIndex_of r40 (by rw [lp]; omega)
      walk_at "go"
      refine ⟨small_lt (by rw [List.length_map]; omega), wait ⟨zs ++ [z], ps.eraseIdx r4.toNat, by rw [List.length_append, hzl] <;> rfl, ?_, ?_, ?_, ?_, fun x o a1 a2 a3 a4 e => upd_get a3 (upd_get a4 (k4 x o a1 a2 (k3 x o a1 a2 a3 a4 e)))⟩⟩
      · rw [List.append_assoc]
        exact ((erase_perm hz).append_left zs).trans pm
      · rw [upd_same, List.map_append] <;> rfl
      · rw [upd_ne nPR, upd_same, erase_map]
      · rw [show n + 1 + ((i + 1 : Nat) : Int) = n + 1 + (i : Int) + 1 by omega]
        exact (B4.upd nP).upd nR
    · rintro H' ⟨zs, ps, hzl, pm, hR3, hP3, B3, k3⟩
      refine q R zs ps _ _ pm (by omega) ?_ hR3 B3 (by omega) fun x o a1 a2 e => ?_
      · cases y : H R with
        | none => rfl
        | some o => rw [k2 _ _ nR.1 nR.2.1 (s1 _ _ y)] at hR; cases hR
      · have e2 := k2 x o a1 a2 (s1 _ _ e)
        exact k3 x o a1 a2 (ne_of_none e2 hR) (ne_of_none e hP) e2
/-! ### _law_helpers -/
theorem same_none' {H H' : Hp} {r : Addr} (s : Same H H') (h : H' r = none) : H r = none := by
  cases z : H r with
  | none => rfl
  | some o => rw [s r o z] at h; cases h
def hows : List Str := ["lent", "given"]
/-- what a helper that the law draws is like -/
structure HOk (ps : List Pr) (h : Hl) : Prop where
  sd : h.side = 0 ∨ h.side = 1
  tl : h.takes.length ≤ 3
  tk : ∀ w ∈ h.takes, w ∈ hows
  hl : h.throws.length ≤ 4
  hn : h.throws.Nodup
  hw : ∀ w ∈ h.throws, w ∈ ps.map (·.word h.side)
structure GoodH (ps : List Pr) (hs : List Hl) : Prop where
  ok : ∀ h ∈ hs, HOk ps h
  nd : (hs.map (·.name)).Nodup
  nm : ∀ h ∈ hs, IsName h.name
  few : ∀ s : Int, (hs.filter fun h => decide (h.side = s)).length ≤ 4
  len : hs.length ≤ 8
def spHelpers (K : PySem.W.Frag) : Sp := fun vs H Q _ => ∃ (b g l D : Addr) (n : Int) (L : List (Addr × Pr)), vs = [.ref b, .ref D] ∧ BoxAt H b g l n ∧ n ≤ 600000 ∧ D ≠ b ∧ D ≠ g ∧ PairsAt H D L ∧ Good (L.map (·.2)) ∧
  ∀ (F : Addr) (M : List (Addr × Hl)) (n' : Int) (H' : Hp), GoodH (L.map (·.2)) (M.map (·.2)) → H F = none → HelpersAt K H' F M → BoxAt H' b g l n' → n' ≤ n + 400 → Keep2 b g H H' → Q (.ref F) H'
/-- what stands while the helpers are drawn -/
structure HInv (K : PySem.W.Frag) (H0 H : Hp) (b g l F N D : Addr) (n : Int) (L : List (Addr × Pr)) (ws : List Str) (M : List (Addr × Hl)) (ns : List Str) (k0 k1 : Int) : Prop where
  box : BoxAt H b g l n
  hs : HelpersAt K H F M
  nm : H N = some (.lst (ns.map V.str))
  pm : (M.map (fun e => e.2.name) ++ ns).Perm ws
  ok : ∀ e ∈ M, HOk (L.map (·.2)) e.2
  c0 : ((M.filter fun e => decide (e.2.side = 0)).length : Int) = k0
  c1 : ((M.filter fun e => decide (e.2.side = 1)).length : Int) = k1
  len : (M.length : Int) = k0 + k1
  kp : ∀ x o, x ≠ b → x ≠ g → x ≠ F → x ≠ N → H0 x = some o → H x = some o
theorem ok__law_helpers (T : Txt K mg a) : FnOk P w K mg base CX0 5 a.f__law_helpers a.d__law_helpers ["_law_box_here", "_law_pairs_here"] (spHelpers K) := by
  have G__law_names := ok__law_names (P := P) (w := w) (base := base) T
  have G__law_take := ok__law_take (P := P) (w := w) (base := base) T
  have G__law_some := ok__law_some (P := P) (w := w) (base := base) T
  have cl_Pacts := T.cl_Pacts
  have na_Pacts_kept_pairs := T.na_Pacts_kept_pairs
  have na_Pacts_kept_pacts := T.na_Pacts_kept_pacts
  refine T.F__law_helpers.ok sc__law_helpers (fun vs H Q E h => ?_) (fun cdv A outer s H vs Q E hr h => ?_)
  · obtain ⟨b, g, l, D, n, L, rfl, _⟩ := h
    rfl
  · obtain ⟨b, g, l, D, n, L, rfl, B, hn, nDb, nDg, PP, G, q⟩ := h
    refine ⟨_, (pss_cons (ps_set (i := 2) sc__law_helpers.nd rfl (Or.inl rfl) (pe_call G__law_names (hr.mono (by decide)) rfl T.m__law_names T.F__law_names.kp T.b__law_names .nil pass0 (pa_cons (pv 0) (pa_cons pe_int pa_nil))))
      (pss_cons (ps_set (i := 3) sc__law_helpers.nd rfl (Or.inl rfl) (pe_lst (pa_cons (pe_call G__law_take (hr.mono (by decide)) rfl T.m__law_take T.F__law_take.kp T.b__law_take .nil pass0 (pa_cons (pv 0) (pa_cons pe_int pa_nil))) (pa_cons (pe_call G__law_take (hr.mono (by decide)) rfl T.m__law_take T.F__law_take.kp T.b__law_take .nil pass0 (pa_cons (pv 0) (pa_cons pe_int pa_nil))) pa_nil))))
      (pss_cons (ps_set (i := 4) sc__law_helpers.nd rfl (Or.inl rfl) (pe_lst pa_nil))
      (pss_cons (ps_stop (ps_for PassesOwn.never rfl (pi_wait (pi_range1 rfl T.z_range (pa_cons pe_int pa_nil))) (pg_name (i := 5) sc__law_helpers.nd rfl (Or.inr rfl)) (pss_one (ps_stop (ps_for PassesOwn.never rfl (pi_wait (pi_range1 rfl T.z_range (pa_cons (pe_ix ix_list (pv 3) (pv 5) (fun _ _ => rfl)) pa_nil))) (pg_name (i := 6) sc__law_helpers.nd rfl (Or.inl rfl)) (pss_cons (ps_set (i := 7) sc__law_helpers.nd rfl (Or.inl rfl) (pe_callTy call_tuple_of (by rfl) T.z_tuple (by decide +kernel) (pa_cons (pe_lc (own := [("_law_j", 10)]) (g := gName 10) (tt := tYes) (te := (tOp (rIxL K) _ _)) rfl sc__law_helpers.nd (pi_range1 rfl T.z_range (pa_cons (pe_call G__law_take (hr.mono (by decide)) rfl T.m__law_take T.F__law_take.kp T.b__law_take .nil pass0 (pa_cons (pv 0) (pa_cons pe_int pa_nil))) pa_nil)) (blkOk_by (own := [("_law_j", 10)]) (N := n__law_helpers) (sc := defScope s__law_helpers) (by decide +kernel)) (fun _ _ _ _ _ => (pg_name (i := 10) sc__law_helpers.nd rfl (Or.inl rfl))) (fun _ _ _ _ _ => pts_nil) (fun _ _ _ _ _ => (pe_ix ix_list (pe_lst (pa_cons pe_str (pa_cons pe_str pa_nil))) (pe_call G__law_take (hr.mono (by decide)) rfl T.m__law_take T.F__law_take.kp T.b__law_take .nil pass0 (pa_cons (pv 0) (pa_cons pe_int pa_nil))) (fun _ _ => rfl)))) pa_nil)))
      (pss_cons (ps_set (i := 8) sc__law_helpers.nd rfl (Or.inl rfl) (pe_callTy call_tuple_of (by rfl) T.z_tuple (by decide +kernel) (pa_cons (pe_call G__law_some (hr.mono (by decide)) rfl T.m__law_some T.F__law_some.kp T.b__law_some .nil pass0 (pa_cons (pv 0) (pa_cons (pe_lc (own := [("_law_pair", 11)]) (g := gName 11) (tt := tYes) (te := (tOp (rIxT K) _ _)) rfl sc__law_helpers.nd (pi_list (pv 1)) (blkOk_by (own := [("_law_pair", 11)]) (N := n__law_helpers) (sc := defScope s__law_helpers) (by decide +kernel)) (fun _ _ _ _ _ => (pg_name (i := 11) sc__law_helpers.nd rfl (Or.inl rfl))) (fun _ _ _ _ _ => pts_nil) (fun _ _ _ _ _ => (pe_ix ix_tup (pv 11) (pv 5) (fun _ _ => rfl)))) (pa_cons pe_int pa_nil)))) pa_nil)))
      (pss_cons (ps_set (i := 9) sc__law_helpers.nd rfl (Or.inl rfl) (pe_tup (pa_cons (pe_bm0 PySem.F.plainAttrs_list PySem.F.slot_list_pop PySem.F.type_list_pop mt_pop (pv 2)) (pa_cons (pv 5) (pa_cons (pv 7) (pa_cons (pe_cmpR op_eq (pe_call G__law_take (hr.mono (by decide)) rfl T.m__law_take T.F__law_take.kp T.b__law_take .nil pass0 (pa_cons (pv 0) (pa_cons pe_int pa_nil))) pe_int (nomark _)) (pa_cons (pv 8) pa_nil)))))))
      (pss_one (ps_expr (pe_bm PySem.F.plainAttrs_list PySem.F.slot_list_insert PySem.F.type_list_insert mt_insert (pv 4) (pa_cons (pe_call G__law_take (hr.mono (by decide)) rfl T.m__law_take T.F__law_take.kp T.b__law_take .nil pass0 (pa_cons (pv 0) (pa_cons (pe_op op_add (pe_callB call_lenK (by rfl) T.z_len PySem.boot_len (pa_cons (pv 4) pa_nil)) pe_int) pa_nil))) (pa_cons (pv 9) pa_nil)))))))))))))
      (pss_one (ps_ret (pv 4))))))), ?_⟩
    walk_at "go"
    intro N ws n1 H1 hw1 nd1 nm1 hN hN1 B1 hb1 k1
    have nN := B.fresh hN
    walk_at "go"
    intro c0 H2 c00 c01 B2 k2
    walk_at "go"
    intro c1 H3 c10 c11 B3 k3
    walk_at "go"
    intro Cn hCn
    have s4 : Same H3 (upd H3 Cn (.lst [.int c0, .int c1])) := Same.upd_new hCn
    have B4 := B3.same s4
    obtain ⟨H4, e4⟩ : ∃ H4, H4 = upd H3 Cn (.lst [.int c0, .int c1]) := ⟨_, rfl⟩
    rw [← e4] at s4 B4 ⊢
    have hC4 : H4 Cn = some (.lst [.int c0, .int c1]) := by rw [e4, upd_same]
    have nC := B3.fresh hCn
    walk_at "go"
    intro F hF
    have nF := B4.fresh hF
    have hN4 : H4 N = some (.lst (ws.map V.str)) := s4 _ _ (k3 _ _ nN.1 nN.2.1 (k2 _ _ nN.1 nN.2.1 hN1))
    have nFN : N ≠ F := ne_of_none hN4 hF
    have nFC : Cn ≠ F := ne_of_none hC4 hF
    have nNC : N ≠ Cn := ne_of_none (k3 _ _ nN.1 nN.2.1 (k2 _ _ nN.1 nN.2.1 hN1)) hCn
    have PP4 : PairsAt H4 D L := by
      refine TK.pairs (((B.tk k1).trans (B1.tk k2)).trans ((B2.tk k3).trans (TK.same s4))) PP fun o e => s4 _ _ (k3 _ _ nDb nDg (k2 _ _ nDb nDg (k1 _ _ nDb nDg e)))
    have nDF : D ≠ F := ne_of_none PP4.ls hF
    have nDN : D ≠ N := ne_of_none PP.ls hN
    refine sq_seq (stop_in ?_)
    walk_at "go"
    refine wait ?_
    refine forR (lo := 0) (n := 2) (fun i σ H' => (∃ u5 u6 u7 u8 u9, σ = [some (.ref b), some (.ref D), some (.ref N), some (.ref Cn), some (.ref F), u5, u6, u7, u8, u9, none, none]) ∧
      ∃ M ns n', HInv K H4 H' b g l F N D n' L ws M ns (if 1 ≤ i then c0 else 0) (if 2 ≤ i then c1 else 0) ∧ n' ≤ n1 + 2 + 50 * i) ?_ ?_ ?_
    · refine ⟨⟨_, _, _, _, _, rfl⟩, [], ws, n1 + 1 + 1, ⟨B4.upd nF, ⟨upd_same, fun _ h => nomatch h⟩, upd_get nFN hN4, List.Perm.refl _, (fun _ h => nomatch h), rfl, rfl, rfl, fun x o _ _ a3 _ e => upd_get a3 e⟩, by omega⟩
    · rintro i σ H5 hi ⟨⟨u5, u6, u7, u8, u9, rfl⟩, M, ns, n5, I5, hn5⟩
      have hC5 := I5.kp _ _ nC.1 nC.2.1 nFC (Ne.symm nNC) hC4
      obtain ⟨sd, esd⟩ : ∃ sd : Int, sd = 0 + (i : Int) := ⟨_, rfl⟩
      have hsd : sd = 0 ∨ sd = 1 := by omega
      obtain ⟨cs, hcs, cs0, cs4, ecs⟩ : ∃ cs : Int, atI [V.int c0, .int c1] sd = some (.int cs) ∧ 0 ≤ cs ∧ cs ≤ 4 ∧ cs = (if sd = 0 then c0 else c1) := by
        rcases hsd with e | e
        · rw [e]; exact ⟨c0, rfl, c00, by omega, rfl⟩
        · rw [e]; exact ⟨c1, rfl, c10, by omega, rfl⟩
      rw [← esd]
      refine stop_in ?_
      walk_at "go"
      refine wait ?_
      refine forR (lo := 0) (n := cs.toNat) (fun j σ H' => (∃ u6 u7 u8 u9, σ = [some (.ref b), some (.ref D), some (.ref N), some (.ref Cn), some (.ref F), some (.int sd), u6, u7, u8, u9, none, none]) ∧
        ∃ M ns n', HInv K H4 H' b g l F N D n' L ws M ns (if sd = 0 then (j : Int) else c0) (if sd = 0 then 0 else (j : Int)) ∧ n' ≤ n5 + 12 * j) ?_ ?_ ?_
      · refine ⟨⟨_, _, _, _, rfl⟩, M, ns, n5, ?_, by omega⟩
        rcases hsd with e | e
        · have ei : i = 0 := by omega
          subst ei
          rw [if_pos e, if_pos e]
          exact I5
        · have ei : i = 1 := by omega
          subst ei
          rw [if_neg (by omega), if_neg (by omega)]
          exact I5
      · rintro j σ H6 hj ⟨⟨u6', u7', u8', u9', rfl⟩, M6, ns6, n6, I6, hn6⟩
        clear I5
        have B6 := I6.box
        have hj4 : j < 4 := by omega
        have hnb : n6 ≤ 700000 := by omega
        walk_at "go"
        intro r7 H7 r70 r71 B7 k7
        walk_at "go"
        intro R hR
        have nR := B7.fresh hR
        refine lcR (lo := 0) (n := r7.toNat) (fun i H' => ∃ ts : List Str, ts.length = i ∧ (∀ w ∈ ts, w ∈ hows) ∧ H' R = some (.lst (ts.map V.str)) ∧ BoxAt H' b g l (n6 + 1 + i) ∧ ∀ x o, x ≠ b → x ≠ g → x ≠ R → H7 x = some o → H' x = some o) ?_ ?_ ?_
        · exact ⟨[], rfl, (fun _ h => nomatch h), upd_same, by rw [show n6 + 1 + ((0 : Nat) : Int) = n6 + 1 by omega]; exact B7.upd nR, fun x o _ _ a3 e => upd_get a3 e⟩
        · rintro i' H8 hi8 ⟨ts, htl, hts, hR8, B8, k8⟩
          refine ⟨rfl, ?_⟩
          walk_at "go"
          intro p9 hp9
          have s9 : Same H8 (upd H8 p9 (.lst [.str "lent", .str "given"])) := Same.upd_new hp9
          have B9 := B8.same s9
          have n9 := B8.fresh hp9
          refine ⟨_, rfl, b, g, l, _, 2, rfl, B9, by omega, by decide, by decide, fun r10 H10 r100 r101 B10 k10 => ?_⟩
          have hp10 := k10 _ _ n9.1 n9.2.1 upd_same
          obtain ⟨v, e1, e2⟩ := atI_in (xs := [V.str "lent", .str "given"]) (i := r10) r100 r101
          obtain ⟨z, rfl, hz⟩ : ∃ z : Str, v = .str z ∧ z ∈ hows := by
            have hm := List.mem_of_getElem? e2
            simp only [List.mem_cons, List.not_mem_nil, or_false] at hm
            rcases hm with rfl | rfl
            · exact ⟨_, rfl, List.mem_cons_self⟩
            · exact ⟨_, rfl, List.mem_cons_of_mem _ List.mem_cons_self⟩
          have hR10 := k10 _ _ nR.1 nR.2.1 (s9 _ _ hR8)
          walk_at "go"
          refine ⟨small_lt (by rw [List.length_map]; omega), wait ⟨ts ++ [z], by rw [List.length_append, htl] <;> rfl, ?_, ?_, ?_, fun x o a1 a2 a3 e => upd_get a3 (k10 x o a1 a2 (s9 _ _ (k8 x o a1 a2 a3 e)))⟩⟩
          · intro w hw
            rcases List.mem_append.mp hw with y | y
            · exact hts w y
            · rw [List.mem_singleton.mp y]; exact hz
          · rw [upd_same, List.map_append] <;> rfl
          · rw [show n6 + 1 + ((i' + 1 : Nat) : Int) = n6 + 1 + (i' : Int) + 1 by omega]
            exact B10.upd nR
        · rintro H8 ⟨ts, htl, hts, hR8, B8, k8⟩
          have hts3 : ts.length ≤ 3 := by omega
          refine ⟨R, _, rfl, .inl ⟨SqL.of hR8, fun tk htk => ?_⟩⟩
          have s9 : Same H8 (upd H8 tk (.tup (ts.map V.str))) := Same.upd_new htk
          obtain ⟨H9, e9⟩ : ∃ H9, H9 = upd H8 tk (.tup (ts.map V.str)) := ⟨_, rfl⟩
          rw [← e9] at s9 ⊢
          have htk9 : H9 tk = some (.tup (ts.map V.str)) := by rw [e9, upd_same]
          have B9 := B8.same s9
          have k69 : ∀ x o, x ≠ b → x ≠ g → H6 x = some o → H9 x = some o := fun x o a1 a2 e => by
            have e7 := k7 x o a1 a2 e
            exact s9 _ _ (k8 x o a1 a2 (ne_of_none e7 hR) e7)
          have PP9 : PairsAt H9 D L := by
            have P6 : PairsAt H6 D L := PP4.keep (fun o e => I6.kp _ _ nDb nDg nDF nDN e) fun t ys e => I6.kp _ _ (ne_of e B4.lists.1.choose_spec (by intro z; cases z)) (ne_of e B4.lists.2.1.choose_spec (by intro z; cases z)) (ne_of_none e hF) (ne_of e hN4 (by intro z; cases z)) e
            exact P6.keep (fun o e => k69 _ _ nDb nDg e) (B6.tups k69)
          have ls9 := PP9.ls
          walk_at "go"
          intro Z hZ
          have nZ := B9.fresh hZ
          refine lcL (K := K) (a := D) (xs := L.map fun e => V.ref e.1) (fun i H' => H' Z = some (.lst (((L.take i).map fun e => e.2.word sd).map V.str)) ∧ Same H9 H') ?_ ?_ ?_ ?_
          · exact ⟨upd_same, Same.upd_new hZ⟩
          · exact fun i H' _ h => SqL.of (h.2 _ _ ls9)
          · rintro i' y H' hi' ⟨g1, g2⟩
            rw [List.getElem?_map] at hi'
            obtain ⟨e, he, rfl⟩ := Option.map_eq_some_iff.mp hi'
            have hp : H' e.1 = _ := g2 _ _ (PP9.at_ e (List.mem_of_getElem? he))
            have hlt := (List.getElem?_eq_some_iff.mp he).1
            have hat := pr_at e.2 hsd
            have gl := G.len
            rw [List.length_map] at gl
            refine ⟨rfl, ?_⟩
            walk_at "go"
            refine ⟨small_lt (by rw [List.length_map, List.length_map, List.length_take]; omega), wait ⟨?_, fun x o e => upd_get (ne_of_none e hZ) (g2 x o e)⟩⟩
            rw [upd_same, List.take_add_one, he, List.map_append, List.map_append] <;> rfl
          · rintro H10 ⟨g1, g2⟩
            rw [List.length_map, List.take_length] at g1
            have gl := G.len
            rw [List.length_map] at gl
            have B10 := B9.same g2
            have lw : (L.map fun e => e.2.word sd).length ≤ 1000 := by rw [List.length_map]; omega
            walk_at "go"
            intro R2 zs rs n11 H11 pz hz4 hR2 hR211 B11 hn11 k11
            refine ⟨R2, _, rfl, .inl ⟨SqL.of hR211, fun th hth => ?_⟩⟩
            have s12 : Same H11 (upd H11 th (.tup (zs.map V.str))) := Same.upd_new hth
            obtain ⟨H12, e12⟩ : ∃ H12, H12 = upd H11 th (.tup (zs.map V.str)) := ⟨_, rfl⟩
            rw [← e12] at s12 ⊢
            have hth12 : H12 th = some (.tup (zs.map V.str)) := by rw [e12, upd_same]
            have B12 := B11.same s12
            have k612 : ∀ x o, x ≠ b → x ≠ g → H6 x = some o → H12 x = some o := fun x o a1 a2 e => s12 _ _ (k11 x o a1 a2 (g2 _ _ (k69 x o a1 a2 e)))
            have htk12 : H12 tk = some (.tup (ts.map V.str)) := s12 _ _ (B10.tups k11 _ _ (g2 _ _ htk9))
            have hN12 := k612 _ _ nN.1 nN.2.1 I6.nm
            have hF12 := k612 _ _ nF.1 nF.2.1 I6.hs.ls
            have tk612 : TK H6 H12 := ((B6.tk k69).trans (TK.same g2)).trans ((B10.tk k11).trans (TK.same s12))
            have hM6 : (M6.length : Int) < 8 := by
              rw [I6.len]
              rcases hsd with e | e
              · rw [if_pos e, if_pos e]; omega
              · rw [if_neg (by omega), if_neg (by omega)]; omega
            obtain ⟨ini, z, ens⟩ : ∃ ini z, ns6 = ini ++ [z] := by
              have hl6 := I6.pm.length_eq
              rw [List.length_append, List.length_map] at hl6
              have hne : ns6 ≠ [] := fun e => by rw [e] at hl6; simp at hl6; omega
              exact ⟨_, _, (List.dropLast_concat_getLast hne).symm⟩
            have hlast : (ns6.map V.str)[(ns6.map V.str).length - 1]? = some (.str z) := by
              rw [ens, List.map_append, List.length_append, List.length_map]
              simp
            have hdrop : (ns6.map V.str).dropLast = ini.map V.str := by
              rw [ens, List.map_append]
              simp
            have B13 := B12.upd (o := .lst (ns6.map V.str).dropLast) nN
            have tk13 : TK H12 (upd H12 N (.lst (ns6.map V.str).dropLast)) := TK.lst hN12
            have hF13 := upd_get (o := .lst (ns6.map V.str).dropLast) (Ne.symm nFN) hF12
            have hN13 : upd H12 N (.lst (ns6.map V.str).dropLast) N = some (.lst (ini.map V.str)) := by rw [upd_same, hdrop]
            have k13 : ∀ x o, x ≠ N → H12 x = some o → upd H12 N (.lst (ns6.map V.str).dropLast) x = some o := fun x o a e => upd_get a e
            have lm6 : (M6.map fun e => V.ref e.1).length = M6.length := List.length_map _
            walk_at "go"
            obtain ⟨H13, e13⟩ : ∃ H13, H13 = upd H12 N (.lst (ns6.map V.str).dropLast) := ⟨_, rfl⟩
            rw [← e13] at B13 tk13 hF13 hN13 k13 ⊢
            intro r14 H14 r140 r141 B14 k14
            have tk14 : TK H6 H14 := (tk612.trans tk13).trans (B13.tk k14)
            have hF14 := k14 _ _ nF.1 nF.2.1 hF13
            have hN14 := k14 _ _ nN.1 nN.2.1 hN13
            have htk14 : H14 tk = some (.tup (ts.map V.str)) := ((tk13.trans (B13.tk k14)) _).1 _ htk12
            have hth14 : H14 th = some (.tup (zs.map V.str)) := ((tk13.trans (B13.tk k14)) _).1 _ hth12
            walk_at "go"
            intro t15 ht15
            have s15 : Same H14 (upd H14 t15 (.tup [.str z, .int sd, .ref tk, .bl (decide (V.int r14 = V.int 1)), .ref th])) := Same.upd_new ht15
            obtain ⟨H15, e15⟩ : ∃ H15, H15 = upd H14 t15 (.tup [.str z, .int sd, .ref tk, .bl (decide (V.int r14 = V.int 1)), .ref th]) := ⟨_, rfl⟩
            rw [← e15] at s15 ⊢
            have B15 := B14.same s15
            have hF15 := s15 _ _ hF14
            have hnew : HlAt K H15 (t15, ⟨z, sd, ts, decide (V.int r14 = V.int 1), zs⟩) := ⟨tk, th, by rw [e15, upd_same], SqT.of (s15 _ _ htk14), SqT.of (s15 _ _ hth14)⟩
            refine ⟨_, rfl, Or.inl ⟨rfl, _, SqL.of hF15⟩, _, rfl, _, rfl, F, _, rfl, .inl (SqL.of hF15), _, _, rfl, rfl, b, g, l, _, _, rfl, B15, by omega, by omega, by omega, fun r16 H16 r160 r161 B16 k16 => ?_⟩
            have hF16 := k16 _ _ nF.1 nF.2.1 hF15
            have hN16 := k16 _ _ nN.1 nN.2.1 (s15 _ _ hN14)
            have tk16 : TK H6 H16 := (tk14.trans (TK.same s15)).trans (B15.tk k16)
            have hnew16 := hnew.tk (B15.tk k16)
            refine ⟨_, rfl, F, _, r16, _, rfl, rfl, hF16, small_lt (by omega), r160, by omega, wait ⟨⟨_, _, _, _, rfl⟩, M6.take r16.toNat ++ [(t15, ⟨z, sd, ts, decide (V.int r14 = V.int 1), zs⟩)] ++ M6.drop r16.toNat, ini, n11 + 1 + 1, ?_, ?_⟩⟩
            · have pmM : (M6.take r16.toNat ++ [(t15, (⟨z, sd, ts, decide (V.int r14 = V.int 1), zs⟩ : Hl))] ++ M6.drop r16.toNat).Perm ((t15, (⟨z, sd, ts, decide (V.int r14 = V.int 1), zs⟩ : Hl)) :: M6) := by
                have h1 : (M6.take r16.toNat ++ [(t15, (⟨z, sd, ts, decide (V.int r14 = V.int 1), zs⟩ : Hl))]).Perm ((t15, (⟨z, sd, ts, decide (V.int r14 = V.int 1), zs⟩ : Hl)) :: M6.take r16.toNat) := List.perm_append_comm
                have h2 := h1.append_right (M6.drop r16.toNat)
                rw [List.cons_append, List.take_append_drop] at h2
                exact h2
              have hset : (H16 F = some (.lst (M6.map fun e => V.ref e.1))) := hF16
              have okn : HOk (L.map (·.2)) (⟨z, sd, ts, decide (V.int r14 = V.int 1), zs⟩ : Hl) := by
                have zn : zs.Nodup := by
                  have := pz.nodup_iff.mpr (G.word hsd)
                  rw [List.nodup_append] at this
                  exact this.1
                refine ⟨hsd, hts3, hts, by have : (zs.length : Int) ≤ 4 := hz4; show zs.length ≤ 4; omega, zn, fun w hw => ?_⟩
                have := pz.mem_iff.mp (List.mem_append.mpr (.inl hw))
                rw [List.map_map]
                exact this
              refine ⟨B16.upd nF, ⟨?_, fun e he => ?_⟩, upd_get nFN hN16, ?_, fun e he => ?_, ?_, ?_, ?_, fun x o a1 a2 a3 a4 e => upd_get a3 (k16 x o a1 a2 (s15 _ _ (k14 x o a1 a2 (k13 x o a4 (k612 x o a1 a2 (I6.kp x o a1 a2 a3 a4 e))))))⟩
              · rw [upd_same, List.map_append, List.map_append, List.map_take, List.map_drop] <;> rfl
              · rcases List.mem_cons.mp (pmM.mem_iff.mp he) with y | y
                · rw [y]
                  exact hnew16.tk (TK.lst hF16)
                · exact ((I6.hs.at_ e y).tk tk16).tk (TK.lst hF16)
              · have h1 := (pmM.map fun e => e.2.name).append_right ini
                refine h1.trans ?_
                have h2 := I6.pm
                rw [ens, ← List.append_assoc] at h2
                rw [List.map_cons, List.cons_append]
                exact (List.perm_append_comm (l₁ := [z]) (l₂ := M6.map (fun e => e.2.name) ++ ini)).trans h2
              · rcases List.mem_cons.mp (pmM.mem_iff.mp he) with y | y
                · rw [y]; exact okn
                · exact I6.ok e y
              · have h1 := (pmM.filter fun e => decide (e.2.side = 0)).length_eq
                have c0 := I6.c0
                rcases hsd with e | e
                · subst e
                  rw [h1, List.filter_cons_of_pos (by simp), List.length_cons, if_pos rfl]
                  rw [if_pos rfl] at c0
                  omega
                · subst e
                  rw [h1, List.filter_cons_of_neg (by simp), if_neg (by decide)]
                  rw [if_neg (by decide)] at c0
                  omega
              · have h1 := (pmM.filter fun e => decide (e.2.side = 1)).length_eq
                have c1 := I6.c1
                rcases hsd with e | e
                · subst e
                  rw [h1, List.filter_cons_of_neg (by simp), if_pos rfl]
                  rw [if_pos rfl] at c1
                  omega
                · subst e
                  rw [h1, List.filter_cons_of_pos (by simp), List.length_cons, if_neg (by decide)]
                  rw [if_neg (by decide)] at c1
                  omega
              · have h1 := pmM.length_eq
                have ln := I6.len
                rw [h1, List.length_cons]
                rcases hsd with e | e
                · subst e
                  rw [if_pos rfl, if_pos rfl] at ln ⊢
                  omega
                · subst e
                  rw [if_neg (by decide), if_neg (by decide)] at ln ⊢
                  omega
            · omega
      · rintro σ H6 ⟨⟨u6', u7', u8', u9', rfl⟩, M6, ns6, n6, I6, hn6⟩
        refine wait ⟨⟨_, _, _, _, _, rfl⟩, M6, ns6, n6, ?_, by omega⟩
        have ecs2 : ((cs.toNat : Nat) : Int) = cs := by omega
        rw [ecs2, ecs] at I6
        rcases hsd with e | e
        · have ei : i = 0 := by omega
          subst ei
          rw [if_pos e, if_pos e, if_pos e] at I6
          exact I6
        · have ei : i = 1 := by omega
          subst ei
          rw [if_neg (by omega), if_neg (by omega), if_neg (by omega)] at I6
          exact I6
    · rintro σ H5 ⟨⟨u5, u6, u7, u8, u9, rfl⟩, M, ns, n5, I5, hn5⟩
      walk_at "go"
      have c0' : ((M.filter fun e => decide (e.2.side = 0)).length : Int) = c0 := I5.c0
      have c1' : ((M.filter fun e => decide (e.2.side = 1)).length : Int) = c1 := I5.c1
      have ln := I5.len
      have ln' : (M.length : Int) = c0 + c1 := ln
      have pnd := (I5.pm.nodup_iff.mpr nd1)
      rw [List.nodup_append] at pnd
      refine q F M n5 H5 ⟨?_, ?_, ?_, ?_, ?_⟩ ?_ I5.hs I5.box (by omega) fun x o a1 a2 e => ?_
      · intro h hh
        obtain ⟨e, he, rfl⟩ := List.mem_map.mp hh
        exact I5.ok e he
      · rw [List.map_map]
        exact pnd.1
      · intro h hh
        obtain ⟨e, he, rfl⟩ := List.mem_map.mp hh
        exact nm1 _ (I5.pm.mem_iff.mp (List.mem_append.mpr (.inl (List.mem_map.mpr ⟨e, he, rfl⟩))))
      · intro sd
        by_cases e0 : sd = 0
        · subst e0
          rw [List.filter_map, List.length_map]
          have : (M.filter fun e => decide (e.2.side = 0)).length ≤ 4 := by omega
          exact this
        · by_cases e1 : sd = 1
          · subst e1
            rw [List.filter_map, List.length_map]
            have : (M.filter fun e => decide (e.2.side = 1)).length ≤ 4 := by omega
            exact this
          · have : ((M.map (·.2)).filter fun h => decide (h.side = sd)) = [] := by
              rw [List.filter_eq_nil_iff]
              intro h hh
              obtain ⟨e, he, rfl⟩ := List.mem_map.mp hh
              have := (I5.ok e he).sd
              simp only [decide_eq_true_eq]
              omega
            rw [this]
            exact Nat.zero_le _
      · rw [List.length_map]; omega
      · exact keep_none k1 nF.1 nF.2.1 (keep_none k2 nF.1 nF.2.1 (keep_none k3 nF.1 nF.2.1 (same_none' s4 hF)))
      · have e1 := k1 x o a1 a2 e
        have e3 := s4 _ _ (k3 x o a1 a2 (k2 x o a1 a2 e1))
        exact I5.kp x o a1 a2 (ne_of_none e3 hF) (ne_of_none e hN) e3
end
end Pf
set_option Elab.async false
set_option linter.all false
set_option maxRecDepth 100000
set_option maxHeartbeats 4000000
namespace Pf
open PySem L2
local macro_rules | `(tactic| walk_at "nz") => `(tactic| (show (_ : Int) ≠ 0; omega))
local macro_rules | `(tactic| walk_at "ne") => `(tactic| first | assumption | (apply Ne.symm; assumption))
local macro_rules | `(tactic| walk_at "hp") => `(tactic| first | assumption | exact upd_same | (refine upd_get ?_ ?_; walk_at "ne"; walk_at "hp"))
local macro_rules | `(tactic| walk_at "sd") => `(tactic| first
  | (with_reducible show (_ : Int) < _; omega)
  | (with_reducible show (_ : Int) ≤ _; omega)
  | (with_reducible show (_ : Nat) < _; omega)
  | (with_reducible show (_ : Nat) ≤ _; omega)
  | rfl
  | assumption
  | exact kV_int _
  | exact kV_str _
  | (show (_ : Int) ≠ 0; omega)
  | exact SqL.of (by walk_at "hp")
  | exact ⟨_, SqL.of (by walk_at "hp")⟩
  | exact ⟨_, SqT.of (by walk_at "hp")⟩
  | exact ⟨_, (by assumption)⟩
  | exact SqT.of (by walk_at "hp")
  | exact Rd.of (by walk_at "hp")
  | exact Or.inl (SqL.of (by walk_at "hp"))
  | exact Or.inr (SqT.of (by walk_at "hp"))
  | exact Or.inr (by assumption)
  | (walk_at "hp")
  | (exact Or.inl ⟨rfl, _, SqL.of (by walk_at "hp")⟩)
  | (exact Or.inl ⟨by omega, by omega⟩)
  | (exact Or.inr ⟨by omega, by omega⟩)
  | (refine ⟨?_, ?_, ?_⟩ <;> omega)
  | omega
  | (exact small_le (by first | omega | (simp only [List.length_cons, List.length_nil]; omega)))
  | (exact small_lt (by first | omega | (simp only [List.length_cons, List.length_nil]; omega)))
  | exact Nat.le_of_ble_eq_true rfl
  | exact ⟨_, rfl⟩
  | decide)
local macro_rules | `(tactic| walk_at "st") => `(tactic| first
  | with_reducible refine sq_seq ?_
  | apply Exists.intro
  | (refine And.intro ?_ ?_; (walk_at "sd")))
local macro_rules | `(tactic| walk_at "go") => `(tactic| repeat (walk_at "st"))
section
variable {P : Program} {w : World} {K : PySem.W.Frag} {mg : Str → Option Value} {base : Heap} {a : Ad}
/-! ### Pacts with helpers -/
def hk (M : List (Addr × Hl)) : List (Key × V) := M.map fun e => ((Sum.inr e.2.name : Key), V.ref e.1)
structure PactsH (K : PySem.W.Frag) (C : Addr) (H : Hp) (x kp kd : Addr) (L : List (Addr × Pr)) (M : List (Addr × Hl)) : Prop where
  pa : PactsAt C H x kp kd L (hk M)
  at_ : ∀ e ∈ M, HlAt K H e
theorem PactsH.same {K : PySem.W.Frag} {C : Addr} {H H' : Hp} {x kp kd : Addr} {L : List (Addr × Pr)} {M : List (Addr × Hl)} (h : PactsH K C H x kp kd L M) (k : Same H H') : PactsH K C H' x kp kd L M := ⟨h.pa.same k, fun e he => (h.at_ e he).tk (TK.same k)⟩
theorem hk_none {n : Str} : ∀ {M : List (Addr × Hl)}, n ∉ M.map (fun e => e.2.name) → valV (hk M) (Sum.inr n) = none
  | [], _ => rfl
  | e :: r, h => by
    have h1 : ¬ (Sum.inr e.2.name : Key) = Sum.inr n := fun z => h (by rw [List.map_cons, Sum.inr.inj z]; exact List.mem_cons_self)
    have h2 : n ∉ r.map (fun e => e.2.name) := fun z => h (by rw [List.map_cons]; exact List.mem_cons_of_mem _ z)
    show valV ((Sum.inr e.2.name, V.ref e.1) :: hk r) (Sum.inr n) = none
    rw [valV_neg h1]
    exact hk_none h2
theorem hk_val {e : Addr × Hl} : ∀ {M : List (Addr × Hl)}, (M.map fun e => e.2.name).Nodup → e ∈ M → valV (hk M) (Sum.inr e.2.name) = some (V.ref e.1)
  | [], _, h => by cases h
  | d :: r, hn, h => by
    rw [List.map_cons, List.nodup_cons] at hn
    show valV ((Sum.inr d.2.name, V.ref d.1) :: hk r) (Sum.inr e.2.name) = some (V.ref e.1)
    rcases List.mem_cons.mp h with z | z
    · subst z
      exact valV_pos rfl
    · have hne : ¬ (Sum.inr d.2.name : Key) = Sum.inr e.2.name := fun q => hn.1 (by rw [Sum.inr.inj q]; exact List.mem_map.mpr ⟨e, z, rfl⟩)
      rw [valV_neg hne]
      exact hk_val hn.2 z
theorem hk_in {n : Str} {M : List (Addr × Hl)} (h : n ∈ M.map (fun e => e.2.name)) : ∃ v, valV (hk M) (Sum.inr n) = some v := by
  induction M with
  | nil => cases h
  | cons d r ih =>
    show ∃ v, valV ((Sum.inr d.2.name, V.ref d.1) :: hk r) (Sum.inr n) = some v
    by_cases e : (Sum.inr d.2.name : Key) = Sum.inr n
    · exact ⟨_, valV_pos e⟩
    · rw [valV_neg e]
      refine ih ?_
      rcases List.mem_cons.mp h with z | z
      · exact absurd (congrArg Sum.inr z.symm) e
      · exact z
theorem hk_put {M : List (Addr × Hl)} {n : Str} (v : V) (h : n ∉ M.map (fun e => e.2.name)) : putK (hk M) (Sum.inr n) v = hk M ++ [(Sum.inr n, v)] := putK_new v (hk_none h)
theorem hk_len (M : List (Addr × Hl)) : (hk M).length = M.length := List.length_map _
def spNamesM (K : PySem.W.Frag) (C : Addr) : Sp := fun vs H Q _ => ∃ (x kp kd : Addr) (L : List (Addr × Pr)) (M : List (Addr × Hl)) (s : Int), vs = [.ref x, .int s] ∧ PactsH K C H x kp kd L M ∧ M.length ≤ 10000 ∧
  ∀ D H', H D = none → H' D = some (.lst (((M.filter fun e => decide (e.2.side = s)).map fun e => e.2.name).map V.str)) → Same H H' → Q (.ref D) H'
theorem ok_Pacts_names (T : Txt K mg a) : FnOk P w K mg base CX0 1 a.f_Pacts_names a.d_Pacts_names ["self", "side"] (spNamesM K a.c_Pacts) := by
  have cl_Pacts := T.cl_Pacts
  have na_Pacts_kept_pairs := T.na_Pacts_kept_pairs
  have na_Pacts_kept_pacts := T.na_Pacts_kept_pacts
  refine T.F_Pacts_names.ok sc_Pacts_names (fun vs H Q E h => ?_) (fun cdv A outer s H vs Q E hr h => ?_)
  · obtain ⟨x, kp, kd, L, M, s, rfl, _⟩ := h
    rfl
  · obtain ⟨x, kp, kd, L, M, s, rfl, PA, hl, q⟩ := h
    obtain ⟨dx, ho⟩ := PA.pa.ob
    have hd := PA.pa.pc
    refine ⟨_, (pss_one (ps_ret (pe_lock (pe_lc (own := [("name", 2), ("pact", 3)]) (g := gTup K 2 (gCons (gName 2) (gCons (gName 3) gNil))) (tt := (tTest (tOp _ (tOp (rIxT K) _ _) _))) rfl sc_Pacts_names.nd (pi_items (pe_fld (pv 0) rfl)) (blkOk_by (own := [("name", 2), ("pact", 3)]) (N := n_Pacts_names) (sc := defScope s_Pacts_names) (by decide +kernel)) (fun _ _ _ _ _ => (pg_tup rfl (pgs_cons (pg_name (i := 2) sc_Pacts_names.nd rfl (Or.inl rfl)) (pgs_cons (pg_name (i := 3) sc_Pacts_names.nd rfl (Or.inl rfl)) pgs_nil)))) (fun _ _ _ _ _ => (pts_one (pt_cmpR op_eq (pe_ix ix_tup (pv 3) pe_int (fun _ _ => rfl)) (pv 1) (nomark _)))) (fun _ _ _ _ _ => (pv 2)))))), ?_⟩
    refine ⟨kd, _, hd, trivial, fun od => ?_⟩
    have nxd : x ≠ kd := ne_of ho hd (by intro z; cases z)
    have ho1 : upd H kd (.frz od (.dK (hk M))) x = _ := upd_get nxd ho
    have hd1 : upd H kd (.frz od (.dK (hk M))) kd = some (.frz od (.dK (hk M))) := upd_same
    walk_at "go"
    intro D hD
    have nD : D ≠ kd := fun z => by rw [z, upd_same] at hD; cases hD
    have hD0 : H D = none := by rw [upd_ne nD] at hD; exact hD
    have hlm := hk_len M
    refine lcW (walk_items (d := kd) (o := od) (kvs := hk M)) (fun i H' => H' D = some (.lst ((((M.take i).filter fun e => decide (e.2.side = s)).map fun e => e.2.name).map V.str)) ∧ Same (upd H kd (.frz od (.dK (hk M)))) H') ?_ ?_ ?_ ?_
    · exact ⟨upd_same, Same.upd_new hD⟩
    · exact fun i H' _ h => h.2 _ _ upd_same
    · rintro i v H1 H2 hi ⟨g1, g2⟩ ⟨t, y1, y2, rfl, ht, rfl, hy1, hy2⟩
      have hi2 : i < M.length := by omega
      obtain ⟨e, he⟩ : ∃ e, M[i]? = some e := ⟨_, List.getElem?_eq_getElem hi2⟩
      have hke : (hk M)[i]? = some (Sum.inr e.2.name, V.ref e.1) := by
        show (M.map _)[i]? = _
        rw [List.getElem?_map, he] <;> rfl
      have hy1 : (hk M)[i]?.map (fun kv => kV kv.1) = some y1 := hy1
      have hy2 : (hk M)[i]?.map Prod.snd = some y2 := hy2
      rw [hke] at hy1 hy2
      cases hy1
      cases hy2
      have s2 : Same H1 (upd H1 t (.tup [.str e.2.name, .ref e.1])) := Same.upd_new ht
      obtain ⟨tk, th, h1, h2, h3⟩ := PA.at_ e (List.mem_of_getElem? he)
      have hp : upd H1 t (.tup [.str e.2.name, .ref e.1]) e.1 = _ := s2 _ _ (g2 _ _ (upd_get (ne_of h1 hd (by intro z; cases z)) h1))
      have hat : atI [V.str e.2.name, .int e.2.side, .ref tk, .bl e.2.gives, .ref th] 1 = some (.int e.2.side) := rfl
      have g12 := s2 _ _ g1
      have fl := filt_len (fun e : Addr × Hl => decide (e.2.side = s)) M i
      have ht2 : upd H1 t (.tup [.str e.2.name, .ref e.1]) t = some (.tup [.str e.2.name, .ref e.1]) := upd_same
      refine ⟨t, [.str e.2.name, .ref e.1], rfl, SqT.of ht2, rfl, _, _, rfl, _, _, rfl, rfl, ?_⟩
      refine ⟨rfl, ?_⟩
      walk_at "go"
      refine ifD (fun b => ?_) (fun b => ?_)
      · have b1 : e.2.side = s := V.int.inj b
        walk_at "go"
        refine ⟨small_lt (by rw [List.length_map, List.length_map]; omega), wait ⟨?_, fun x o e => upd_get (ne_of_none e hD) (s2 _ _ (g2 x o e))⟩⟩
        rw [upd_same, take_filt_yes he (decide_eq_true b1), List.map_append, List.map_append] <;> rfl
      · have b1 : ¬ e.2.side = s := fun z => b (congrArg V.int z)
        refine wait ⟨?_, fun x o e => s2 _ _ (g2 x o e)⟩
        rw [take_filt_no he (decide_eq_false b1)]
        exact g12
    · rintro H1 ⟨g1, g2⟩
      rw [hlm, List.take_length] at g1
      refine ⟨g2 _ _ upd_same, ?_⟩
      refine q D _ hD0 (upd_get nD g1) fun y o e => ?_
      by_cases z : y = kd
      · rw [z, hd] at e
        rw [z, upd_same]
        exact e
      · exact upd_get z (g2 _ _ (upd_get z e))
def fitsH (ps : List Pr) (ahead : List Hl) (h : Hl) : Bool :=
  nameB h.name && decide (h.name ∉ ahead.map (·.name)) && decide (h.side = 0 ∨ h.side = 1) && decide ((ahead.filter fun k => decide (k.side = h.side)).length ≠ 4) && decide (h.takes.length ≤ 3) && decide (h.throws.length ≤ 4) &&
    (h.takes.all fun w => decide (w ∈ hows)) && decide h.throws.Nodup && h.throws.all fun w => decide (w ∈ ps.map (·.word h.side))
def spFitsHelper (K : PySem.W.Frag) (C : Addr) : Sp := fun vs H Q _ => ∃ (x kp kd t : Addr) (L : List (Addr × Pr)) (M : List (Addr × Hl)) (h : Hl), vs = [.ref x, .ref t] ∧ PactsH K C H x kp kd L M ∧ HlAt K H (t, h) ∧ L.length ≤ 10000 ∧ M.length ≤ 10000 ∧ h.name.length ≤ 100000 ∧ h.takes.length ≤ 1000 ∧ h.throws.length ≤ 1000 ∧
  ∀ H', Same H H' → Q (.bl (fitsH (L.map (·.2)) (M.map (·.2)) h)) H'
theorem ok_Pacts_fits_helper (T : Txt K mg a) : FnOk P w K mg base CX0 2 a.f_Pacts_fits_helper a.d_Pacts_fits_helper ["self", "helper"] (spFitsHelper K a.c_Pacts) := by
  have G_is_name := ok_is_name (P := P) (w := w) (base := base) T
  have G_Pacts_names := ok_Pacts_names (P := P) (w := w) (base := base) T
  have G_Pacts_words_called := ok_Pacts_words_called (P := P) (w := w) (base := base) T
  have cl_Pacts := T.cl_Pacts
  have na_Pacts_kept_pairs := T.na_Pacts_kept_pairs
  have na_Pacts_kept_pacts := T.na_Pacts_kept_pacts
  refine T.F_Pacts_fits_helper.ok sc_Pacts_fits_helper (fun vs H Q E h => ?_) (fun cdv A outer s H vs Q E hr h => ?_)
  · obtain ⟨x, kp, kd, t, L, M, h, rfl, _⟩ := h
    rfl
  · obtain ⟨x, kp, kd, t, L, M, h, rfl, PA, HA, l1, l2, l3, l4, l5, q⟩ := h
    obtain ⟨tk, th, ht, htk, hth⟩ := HA
    obtain ⟨dx, ho⟩ := PA.pa.ob
    have hd := PA.pa.pc
    refine ⟨_, (pss_cons (ps_asg (pv 1) (pg_tup rfl (pgs_cons (pg_name (i := 2) sc_Pacts_fits_helper.nd rfl (Or.inl rfl)) (pgs_cons (pg_name (i := 3) sc_Pacts_fits_helper.nd rfl (Or.inr rfl)) (pgs_cons (pg_name (i := 4) sc_Pacts_fits_helper.nd rfl (Or.inl rfl)) (pgs_cons (pg_name (i := 5) sc_Pacts_fits_helper.nd rfl (Or.inl rfl)) (pgs_cons (pg_name (i := 6) sc_Pacts_fits_helper.nd rfl (Or.inl rfl)) pgs_nil)))))))
      (pss_cons (ps_if (pt_mid (PW.pt (pw_or (pt_not (pt_val (pe_call G_is_name (hr.mono (by decide)) rfl T.m_is_name T.F_is_name.kp T.b_is_name .nil pass0 (pa_cons (pv 2) pa_nil)))) (pw_or (pt_cmp (pc_din (hu_of hr) (pv 2) (pe_fld (pv 0) rfl))) (pw_or1 (pt_cmpR op_notIn_seq (pv 3) (pe_tup (pa_cons pe_int (pa_cons pe_int pa_nil))) (by rfl))))))) (pss_one (ps_ret pe_bl)) pss_nil)
      (pss_cons (ps_if (pt_mid (PW.pt (pw_or (pt_cmpR op_eq (pe_callB call_lenK (by rfl) T.z_len PySem.boot_len (pa_cons (pe_meth (pv 0) T.cl_Pacts T.mt_Pacts_names G_Pacts_names (hr.mono (by decide)) T.b_Pacts_names .nil pass0 (pa_cons (pv 3) pa_nil)) pa_nil)) (pe_globI rfl T.g_MOST_HELPERS) (nomark _)) (pw_or (pt_cmpR op_gt (pe_callB call_lenK (by rfl) T.z_len PySem.boot_len (pa_cons (pv 4) pa_nil)) (pe_globI rfl T.g_MOST_TAKES) (nomark _)) (pw_or1 (pt_cmpR op_gt (pe_callB call_lenK (by rfl) T.z_len PySem.boot_len (pa_cons (pv 6) pa_nil)) (pe_globI rfl T.g_MOST_THROWS) (nomark _))))))) (pss_one (ps_ret pe_bl)) pss_nil)
      (pss_cons (ps_if (pt_mid (PW.pt (pw_or (pt_val (pe_callB (cr_any rfl) (by rfl) T.z_any (by decide +kernel) (pa_cons (pe_lc (own := [("how", 7)]) (g := gName 7) (tt := tYes) (te := (tOp (rIn K true) _ _)) rfl sc_Pacts_fits_helper.nd (pi_tup (pv 4)) (blkOk_by (own := [("how", 7)]) (N := n_Pacts_fits_helper) (sc := defScope s_Pacts_fits_helper) (by decide +kernel)) (fun _ _ _ _ _ => (pg_name (i := 7) sc_Pacts_fits_helper.nd rfl (Or.inl rfl))) (fun _ _ _ _ _ => pts_nil) (fun _ _ _ _ _ => (pe_cmpR op_notIn_seq (pv 7) (pe_glob (v := .ref a.k_HOWS) rfl T.g_HOWS rfl) (by rfl)))) pa_nil))) (pw_or1 (pt_cmpR op_ne (pe_lenU rfl (by rfl) T.z_len (by rfl) T.z_set (pv 6)) (pe_callB call_lenK (by rfl) T.z_len PySem.boot_len (pa_cons (pv 6) pa_nil)) (nomark _)))))) (pss_one (ps_ret pe_bl)) pss_nil)
      (pss_one (ps_ret (pe_callB (cr_all rfl) (by rfl) T.z_all (by decide +kernel) (pa_cons (pe_lc (own := [("word", 8)]) (g := gName 8) (tt := tYes) (te := (tOp (rIn K false) _ _)) rfl sc_Pacts_fits_helper.nd (pi_tup (pv 6)) (blkOk_by (own := [("word", 8)]) (N := n_Pacts_fits_helper) (sc := defScope s_Pacts_fits_helper) (by decide +kernel)) (fun _ _ _ _ _ => (pg_name (i := 8) sc_Pacts_fits_helper.nd rfl (Or.inl rfl))) (fun _ _ _ _ _ => pts_nil) (fun _ _ _ _ _ => (pe_cmpR op_in_seq (pv 8) (pe_meth (pv 0) T.cl_Pacts T.mt_Pacts_words_called G_Pacts_words_called (hr.mono (by decide)) T.b_Pacts_words_called .nil pass0 (pa_cons (pv 3) pa_nil)) (by rfl)))) pa_nil)))))))), ?_⟩
    have ht : H t = some (.tup [.str h.name, .int h.side, .ref tk, .bl h.gives, .ref th]) := ht
    have bad : ∀ H', Same H H' → fitsH (L.map (·.2)) (M.map (·.2)) h = false → Q (.bl false) H' := fun H' s e => by rw [← e]; exact q H' s
    have lt : (h.takes.map V.str).length = h.takes.length := List.length_map _
    have lh : (h.throws.map V.str).length = h.throws.length := List.length_map _
    walk_at "go"
    refine midT_of (fun c H1 => Same H H1 ∧ (c = true → fitsH (L.map (·.2)) (M.map (·.2)) h = false) ∧ (c = false → nameB h.name = true ∧ h.name ∉ M.map (fun e => e.2.name) ∧ (h.side = 0 ∨ h.side = 1))) ?_ ?_
    · walk_at "go"
      intro H1 s1
      have PA1 := PA.same s1
      obtain ⟨dx1, ho1⟩ := PA1.pa.ob
      have hd1 := PA1.pa.pc
      cases en : nameB h.name with
      | false =>
        walk_at "go"
        exact wait ⟨s1, fun _ => by unfold fitsH; rw [en]; simp, fun z => nomatch z⟩
      | true =>
        by_cases hin : h.name ∈ M.map (fun e => e.2.name)
        · obtain ⟨v, hv⟩ := hk_in hin
          have hget : DGet H1 kd (.str h.name) (some v) := by
            have := DGet.k (k := Sum.inr h.name) hd1
            rw [hv] at this
            exact this
          walk_at "go"
          refine wait ⟨s1, fun _ => ?_, fun z => nomatch z⟩
          unfold fitsH
          rw [decide_eq_false (show ¬ h.name ∉ (M.map (·.2)).map (·.name) by rw [List.map_map]; exact fun z => z hin)]
          simp
        · have hget : DGet H1 kd (.str h.name) none := by
            have := DGet.k (k := Sum.inr h.name) hd1
            rw [hk_none hin] at this
            exact this
          walk_at "go"
          intro p2 hp2
          have s2 : Same H1 (upd H1 p2 (.tup [.int 0, .int 1])) := Same.upd_new hp2
          refine ⟨p2, _, rfl, .inr (SqT.of upd_same), rfl, rfl, ?_⟩
          have ein : inV (.int h.side) [.int 0, .int 1] = decide (h.side = 0 ∨ h.side = 1) := by
            show ((0 == h.side) || ((1 == h.side) || false)) = _
            by_cases e0 : h.side = 0
            · rw [e0] <;> rfl
            · by_cases e1 : h.side = 1
              · rw [e1] <;> rfl
              · have f0 : (0 == h.side) = false := by simpa using fun z : (0 : Int) = h.side => e0 z.symm
                have f1 : (1 == h.side) = false := by simpa using fun z : (1 : Int) = h.side => e1 z.symm
                rw [f0, f1, decide_eq_false (by omega)] <;> rfl
          rw [if_pos rfl, ein]
          refine ⟨_, rfl, wait ⟨s1.trans s2, fun b => ?_, fun b => ?_⟩⟩
          · have b1 : ¬ (h.side = 0 ∨ h.side = 1) := by simpa using b
            unfold fitsH
            rw [decide_eq_false b1]
            simp
          · have b1 : h.side = 0 ∨ h.side = 1 := of_decide_eq_true ((Bool.not_eq_false' (b := decide (h.side = 0 ∨ h.side = 1))).mp b)
            exact ⟨rfl, hin, b1⟩
    · rintro c H1 ⟨s1, c1, c2⟩
      refine ifB (fun ec => ?_) (fun ec => ?_)
      · walk_at "go"
        exact bad _ s1 (c1 ec)
      · obtain ⟨en, hin, hsd⟩ := c2 ec
        have PA1 := PA.same s1
        obtain ⟨dx1, ho1⟩ := PA1.pa.ob
        walk_at "go"
        refine midT_of (fun c H2 => Same H1 H2 ∧ (c = true → fitsH (L.map (·.2)) (M.map (·.2)) h = false) ∧ (c = false → ((M.map (·.2)).filter fun k => decide (k.side = h.side)).length ≠ 4 ∧ h.takes.length ≤ 3 ∧ h.throws.length ≤ 4)) ?_ ?_
        · walk_at "go"
          intro D H2 hD hD2 s2
          have lf : (((M.filter fun e => decide (e.2.side = h.side)).map fun e => e.2.name).map V.str).length = ((M.map (·.2)).filter fun k => decide (k.side = h.side)).length := by
            rw [List.length_map, List.length_map, List.filter_map, List.length_map] <;> rfl
          have s12 := s1.trans s2
          have htk2 := s12.seqT htk
          have hth2 := s12.seqT hth
          refine ⟨_, _, rfl, .inl (SqL.of hD2), rfl, _, rfl, ?_⟩
          rw [lf]
          refine ifD (fun b => ?_) (fun b => ?_)
          · refine wait ⟨s2, fun _ => ?_, fun z => nomatch z⟩
            unfold fitsH
            rw [decide_eq_false (show ¬ ((M.map (·.2)).filter fun k => decide (k.side = h.side)).length ≠ 4 from fun z => z (by have := V.int.inj b; omega))]
            simp
          · have b1 : ((M.map (·.2)).filter fun k => decide (k.side = h.side)).length ≠ 4 := fun z => b (by rw [z] <;> rfl)
            refine ⟨_, rfl, tk, _, rfl, .inr htk2, _, _, rfl, rfl, _, rfl, ?_⟩
            rw [lt]
            refine ifD (fun b2 => ?_) (fun b2 => ?_)
            · refine wait ⟨s2, fun _ => ?_, fun z => nomatch z⟩
              unfold fitsH
              rw [decide_eq_false (show ¬ h.takes.length ≤ 3 by omega)]
              simp
            · refine ⟨_, rfl, th, _, rfl, .inr hth2, _, _, rfl, rfl, _, rfl, ?_⟩
              rw [lh]
              refine wait ⟨s2, fun b3 => ?_, fun b3 => ⟨b1, by omega, ?_⟩⟩
              · have b4 := of_decide_eq_true b3
                unfold fitsH
                rw [decide_eq_false (show ¬ h.throws.length ≤ 4 by omega)]
                simp
              · have b4 := of_decide_eq_false b3
                omega
        · rintro c H2 ⟨s2, c3, c4⟩
          have s12 := s1.trans s2
          refine ifB (fun ed => ?_) (fun ed => ?_)
          · walk_at "go"
            exact bad _ s12 (c3 ed)
          · obtain ⟨n4, t3, h4⟩ := c4 ed
            have htk2 := s12.seqT htk
            have hth2 := s12.seqT hth
            walk_at "go"
            refine midT_of (fun c H3 => Same H2 H3 ∧ (c = true → fitsH (L.map (·.2)) (M.map (·.2)) h = false) ∧ (c = false → (h.takes.all fun w => decide (w ∈ hows)) = true ∧ h.throws.Nodup)) ?_ ?_
            · walk_at "go"
              intro D hD
              refine lcT (K := K) (a := tk) (xs := h.takes.map V.str) (fun i H' => H' D = some (.lst (((h.takes.take i).map fun w => !decide (w ∈ hows)).map V.bl)) ∧ Same H2 H') ?_ ?_ ?_ ?_
              · exact ⟨upd_same, Same.upd_new hD⟩
              · exact fun i H' _ h => h.2.seqT htk2
              · rintro i y H' hi ⟨g1, g2⟩
                rw [List.getElem?_map] at hi
                obtain ⟨w1, hw1, rfl⟩ := Option.map_eq_some_iff.mp hi
                have hlt := (List.getElem?_eq_some_iff.mp hw1).1
                refine ⟨rfl, ?_⟩
                refine ⟨_, rfl, a.k_HOWS, _, rfl, .inr (T.tp_HOWS _), rfl, rfl, ?_⟩
                rw [if_pos rfl, show inV (.str w1) [.str "lent", .str "given"] = decide (w1 ∈ hows) from in_strs w1 hows]
                refine ⟨_, g1, small_lt (by rw [List.length_map, List.length_map, List.length_take]; omega), wait ⟨?_, fun x o e => upd_get (ne_of_none e hD) (g2 x o e)⟩⟩
                rw [upd_same, List.take_add_one, hw1, List.map_append, List.map_append] <;> rfl
              · rintro H3 ⟨g1, g2⟩
                rw [List.length_map, List.take_length] at g1
                have hth3 := g2.seqT hth2
                refine ⟨D, _, rfl, SqL.of g1, _, rfl, ?_⟩
                have eany : (h.takes.map fun w => !decide (w ∈ hows)).any id = !(h.takes.all fun w => decide (w ∈ hows)) := by
                  rw [List.any_map]
                  simp [List.all_eq_not_any_not]
                rw [eany]
                cases ea : (h.takes.all fun w => decide (w ∈ hows)) with
                | false =>
                  refine ifT rfl (wait ⟨g2, fun _ => ?_, fun z => nomatch z⟩)
                  unfold fitsH
                  rw [ea]
                  simp
                | true =>
                  refine ifF rfl ?_
                  refine ⟨_, rfl, th, h.throws, rfl, hth3, l5, _, rfl, th, _, rfl, .inr hth3, rfl, _, rfl, wait ⟨g2, fun b => ?_, fun b => ⟨rfl, ?_⟩⟩⟩
                  · have b1 : (PfS.uniq h.throws).length ≠ h.throws.length := fun z => by
                      rw [lh, z] at b
                      simp at b
                    unfold fitsH
                    rw [decide_eq_false (show ¬ h.throws.Nodup from fun z => b1 ((PfS.uniq_len _).mpr z))]
                    simp
                  · rw [lh] at b
                    have b1 : V.int ((PfS.uniq h.throws).length : Int) = V.int (h.throws.length : Int) := by simpa using b
                    have b2 := V.int.inj b1
                    exact (PfS.uniq_len _).mp (by omega)
            · rintro c H3 ⟨s3, c5, c6⟩
              refine ifB (fun ee => ?_) (fun ee => ?_)
              · walk_at "go"
                exact bad _ (s12.trans s3) (c5 ee)
              · obtain ⟨hw1, hn1⟩ := c6 ee
                have s13 := s12.trans s3
                have hth3 := s13.seqT hth
                have PA3 := PA.same s13
                walk_at "go"
                intro D hD
                refine lcT (K := K) (a := th) (xs := h.throws.map V.str) (fun i H' => H' D = some (.lst (((h.throws.take i).map fun w => decide (w ∈ (L.map (·.2)).map (·.word h.side))).map V.bl)) ∧ Same H3 H') ?_ ?_ ?_ ?_
                · exact ⟨upd_same, Same.upd_new hD⟩
                · exact fun i H' _ h => h.2.seqT hth3
                · rintro i y H' hi ⟨g1, g2⟩
                  rw [List.getElem?_map] at hi
                  obtain ⟨w1, hw1, rfl⟩ := Option.map_eq_some_iff.mp hi
                  have hlt := (List.getElem?_eq_some_iff.mp hw1).1
                  have PA4 := PA3.same g2
                  obtain ⟨dx4, ho4⟩ := PA4.pa.ob
                  have pa4 := PA4.pa
                  refine ⟨rfl, ?_⟩
                  walk_at "go"
                  intro Z H5 hZ hZ5 s5
                  refine ⟨Z, _, rfl, .inl (SqL.of hZ5), rfl, flat_strs1 _, ?_⟩
                  have ein : inV (.str w1) ((L.map fun e => e.2.word h.side).map V.str) = decide (w1 ∈ (L.map (·.2)).map (·.word h.side)) := by
                    rw [in_strs, List.map_map] <;> rfl
                  rw [if_neg (by decide), ein]
                  refine ⟨_, s5 _ _ g1, small_lt (by rw [List.length_map, List.length_map, List.length_take]; omega), wait ⟨?_, fun x o e => upd_get (ne_of_none e hD) (s5 _ _ (g2 x o e))⟩⟩
                  rw [upd_same, List.take_add_one, hw1, List.map_append, List.map_append] <;> rfl
                · rintro H4 ⟨g1, g2⟩
                  rw [List.length_map, List.take_length] at g1
                  refine ⟨D, _, rfl, SqL.of g1, ?_⟩
                  have ef : fitsH (L.map (·.2)) (M.map (·.2)) h = (h.throws.map fun w => decide (w ∈ (L.map (·.2)).map (·.word h.side))).all id := by
                    unfold fitsH
                    rw [en, decide_eq_true (show h.name ∉ (M.map (·.2)).map (·.name) by rw [List.map_map]; exact hin), decide_eq_true hsd, decide_eq_true n4, decide_eq_true t3, decide_eq_true h4, hw1, decide_eq_true hn1, List.all_map] <;> rfl
                  have qq := q _ (s13.trans g2)
                  rw [ef] at qq
                  exact qq
end
end Pf
set_option Elab.async false
set_option linter.all false
set_option maxRecDepth 100000
set_option maxHeartbeats 4000000
namespace Pf
open PySem L2
local macro_rules | `(tactic| walk_at "nz") => `(tactic| (show (_ : Int) ≠ 0; omega))
local macro_rules | `(tactic| walk_at "ne") => `(tactic| first | assumption | (apply Ne.symm; assumption))
local macro_rules | `(tactic| walk_at "hp") => `(tactic| first | assumption | exact upd_same | (refine upd_get ?_ ?_; walk_at "ne"; walk_at "hp"))
local macro_rules | `(tactic| walk_at "sd") => `(tactic| first
  | (with_reducible show (_ : Int) < _; omega)
  | (with_reducible show (_ : Int) ≤ _; omega)
  | (with_reducible show (_ : Nat) < _; omega)
  | (with_reducible show (_ : Nat) ≤ _; omega)
  | rfl
  | assumption
  | exact kV_int _
  | exact kV_str _
  | (show (_ : Int) ≠ 0; omega)
  | exact SqL.of (by walk_at "hp")
  | exact ⟨_, SqL.of (by walk_at "hp")⟩
  | exact ⟨_, SqT.of (by walk_at "hp")⟩
  | exact ⟨_, (by assumption)⟩
  | exact SqT.of (by walk_at "hp")
  | exact Rd.of (by walk_at "hp")
  | exact Or.inl (SqL.of (by walk_at "hp"))
  | exact Or.inr (SqT.of (by walk_at "hp"))
  | exact Or.inr (by assumption)
  | (walk_at "hp")
  | (exact Or.inl ⟨rfl, _, SqL.of (by walk_at "hp")⟩)
  | (exact Or.inl ⟨by omega, by omega⟩)
  | (exact Or.inr ⟨by omega, by omega⟩)
  | (refine ⟨?_, ?_, ?_⟩ <;> omega)
  | omega
  | (exact small_le (by first | omega | (simp only [List.length_cons, List.length_nil]; omega)))
  | (exact small_lt (by first | omega | (simp only [List.length_cons, List.length_nil]; omega)))
  | exact Nat.le_of_ble_eq_true rfl
  | exact ⟨_, rfl⟩
  | decide)
local macro_rules | `(tactic| walk_at "st") => `(tactic| first
  | with_reducible refine sq_seq ?_
  | apply Exists.intro
  | (refine And.intro ?_ ?_; (walk_at "sd")))
local macro_rules | `(tactic| walk_at "go") => `(tactic| repeat (walk_at "st"))
section
variable {P : Program} {w : World} {K : PySem.W.Frag} {mg : Str → Option Value} {base : Heap} {a : Ad}
theorem hk_snoc (M : List (Addr × Hl)) (e : Addr × Hl) : hk (M ++ [e]) = hk M ++ [(Sum.inr e.2.name, V.ref e.1)] := by
  unfold hk
  rw [List.map_append] <;> rfl
/-! ### which one is refused -/
def okPs (ps : List Pr) : Prop := ∀ i p, ps[i]? = some p → fitsP (ps.take i) p = true
def okHs (ps : List Pr) (hs : List Hl) : Prop := ∀ i h, hs[i]? = some h → fitsH ps (hs.take i) h = true
def badP (ps : List Pr) (i : Nat) : Prop := (∃ p, ps[i]? = some p ∧ fitsP (ps.take i) p = false) ∧ ∀ j < i, ∀ p, ps[j]? = some p → fitsP (ps.take j) p = true
def badH (ps : List Pr) (hs : List Hl) (i : Nat) : Prop := (∃ h, hs[i]? = some h ∧ fitsH ps (hs.take i) h = false) ∧ ∀ j < i, ∀ h, hs[j]? = some h → fitsH ps (hs.take j) h = true
def FB (ps : List Pr) (hs : List Hl) (z : Int) : Prop := (z = -1 ∧ okPs ps ∧ okHs ps hs) ∨ (∃ i : Nat, z = i ∧ badP ps i) ∨ ∃ i : Nat, z = ps.length + i ∧ okPs ps ∧ badH ps hs i
theorem badP_not {ps : List Pr} {i : Nat} (b : badP ps i) (o : okPs ps) : False := by
  obtain ⟨⟨p, h1, h2⟩, _⟩ := b
  rw [o i p h1] at h2
  cases h2
theorem badH_not {ps : List Pr} {hs : List Hl} {i : Nat} (b : badH ps hs i) (o : okHs ps hs) : False := by
  obtain ⟨⟨p, h1, h2⟩, _⟩ := b
  rw [o i p h1] at h2
  cases h2
theorem badP_one {ps : List Pr} {i j : Nat} (a : badP ps i) (b : badP ps j) : i = j := by
  obtain ⟨⟨p, h1, h2⟩, h3⟩ := a
  obtain ⟨⟨q, g1, g2⟩, g3⟩ := b
  rcases Nat.lt_trichotomy i j with e | e | e
  · rw [g3 i e p h1] at h2; cases h2
  · exact e
  · rw [h3 j e q g1] at g2; cases g2
theorem badH_one {ps : List Pr} {hs : List Hl} {i j : Nat} (a : badH ps hs i) (b : badH ps hs j) : i = j := by
  obtain ⟨⟨p, h1, h2⟩, h3⟩ := a
  obtain ⟨⟨q, g1, g2⟩, g3⟩ := b
  rcases Nat.lt_trichotomy i j with e | e | e
  · rw [g3 i e p h1] at h2; cases h2
  · exact e
  · rw [h3 j e q g1] at g2; cases g2
theorem FB_one {ps : List Pr} {hs : List Hl} {z y : Int} (a : FB ps hs z) (b : FB ps hs y) : z = y := by
  rcases a with ⟨e, o1, o2⟩ | ⟨i, e, b1⟩ | ⟨i, e, o1, b2⟩
  · rcases b with ⟨f, _, _⟩ | ⟨j, f, c1⟩ | ⟨j, f, p1, c2⟩
    · rw [e, f]
    · exact (badP_not c1 o1).elim
    · exact (badH_not c2 o2).elim
  · rcases b with ⟨f, p1, _⟩ | ⟨j, f, c1⟩ | ⟨j, f, p1, c2⟩
    · exact (badP_not b1 p1).elim
    · rw [e, f, badP_one b1 c1]
    · exact (badP_not b1 p1).elim
  · rcases b with ⟨f, _, p2⟩ | ⟨j, f, c1⟩ | ⟨j, f, p1, c2⟩
    · exact (badH_not b2 p2).elim
    · exact (badP_not c1 o1).elim
    · rw [e, f, badH_one b2 c2]
theorem fitsH_new {ps : List Pr} {hs : List Hl} {h : Hl} (f : fitsH ps hs h = true) : h.name ∉ hs.map (·.name) := by
  unfold fitsH at f
  simp only [Bool.and_eq_true] at f
  exact of_decide_eq_true f.1.1.1.1.1.1.1.2
/-- texts and lists of no great size -/
structure SzP (ps : List Pr) : Prop where
  len : ps.length ≤ 1000
  nl : ∀ p ∈ ps, p.near.length ≤ 1000 ∧ p.far.length ≤ 1000
structure SzH (hs : List Hl) : Prop where
  len : hs.length ≤ 1000
  nl : ∀ h ∈ hs, h.name.length ≤ 1000 ∧ h.takes.length ≤ 1000 ∧ h.throws.length ≤ 1000
theorem ok_NoPact___init__ (T : Txt K mg a) : FnOk P w K mg base CX0 1 a.f_NoPact___init__ a.d_NoPact___init__ ["self", "at"] (spErr a.c_NoPact "at") := by
  refine T.F_NoPact___init__.ok sc_NoPact___init__ (fun vs H Q E h => ?_) (fun cdv A outer s H vs Q E hr h => ?_)
  · obtain ⟨e, v, rfl, _⟩ := h
    rfl
  · obtain ⟨e, v, rfl, he, q⟩ := h
    refine ⟨_, pss_one (ps_ost (pv 0) (pv 1)), ?_⟩
    exact ⟨_, rfl, _, rfl, e, a.c_NoPact, rfl, T.ox_NoPact, T.na_NoPact_at, .inl ⟨he, q⟩⟩
def spInitX (K : PySem.W.Frag) (C N : Addr) : Sp := fun vs H Q E => ∃ (x dx pl hl : Addr) (L : List (Addr × Pr)) (M : List (Addr × Hl)), vs = [.ref x, .ref pl, .ref hl] ∧ H x = some (.ins C dx []) ∧ PairsAt H pl L ∧ HelpersAt K H hl M ∧ SzP (L.map (·.2)) ∧ SzH (M.map (·.2)) ∧
  (okPs (L.map (·.2)) → okHs (L.map (·.2)) (M.map (·.2)) → ∀ (kp kd : Addr) (H' : Hp), H kp = none → H kd = none → PactsH K C H' x kp kd L M → (∀ y o, y ≠ x → H y = some o → H' y = some o) → Q .non H') ∧
  (∀ z, FB (L.map (·.2)) (M.map (·.2)) z → z ≠ -1 → ∀ (d : Addr) (H' : Hp), H d = none → H' d = some (.xd [("at", .int z)]) → (∀ y o, y ≠ x → H y = some o → H' y = some o) → E (.ref N) (some d) H')
theorem ok_Pacts___init__ (T : Txt K mg a) : FnOk P w K mg base (L2.CX P w) 3 a.f_Pacts___init__ a.d_Pacts___init__ ["self", "pairs", "helpers"] (spInitX K a.c_Pacts a.c_NoPact) := by
  have G_Pacts_fits_pair := ok_Pacts_fits_pair (P := P) (w := w) (base := base) T
  have G_NoPact___init__ := ok_NoPact___init__ (P := P) (w := w) (base := base) T
  have G_Pacts_fits_helper := ok_Pacts_fits_helper (P := P) (w := w) (base := base) T
  have cl_Pacts := T.cl_Pacts
  have na_Pacts_kept_pairs := T.na_Pacts_kept_pairs
  have na_Pacts_kept_pacts := T.na_Pacts_kept_pacts
  refine T.F_Pacts___init__.okX sc_Pacts___init__ (fun vs H Q E h => ?_) (fun cdv A outer s H vs Q E hr h => ?_)
  · obtain ⟨x, dx, pl, hl, L, M, rfl, _⟩ := h
    rfl
  · obtain ⟨x, dx, pl, hl, L, M, rfl, hx, PP, HH, zP, zH, q1, q2⟩ := h
    refine ⟨_, (pss_cons (ps_fld (pv 0) (pe_lst pa_nil) rfl)
      (pss_cons (ps_fld (pv 0) pe_dnewK rfl)
      (pss_cons (ps_stop (ps_for (passes_of rfl) rfl (pi_wait (pi_enum rfl T.z_enumerate (pa_cons (pv 1) pa_nil))) (pg_tup rfl (pgs_cons (pg_name (i := 3) sc_Pacts___init__.nd rfl (Or.inl rfl)) (pgs_cons (pg_name (i := 4) sc_Pacts___init__.nd rfl (Or.inl rfl)) pgs_nil))) (pss_cons (ps_if (pt_not (pt_val (pe_meth (pv 0) T.cl_Pacts T.mt_Pacts_fits_pair G_Pacts_fits_pair (hr.mono (by decide)) T.b_Pacts_fits_pair .nil pass0 (pa_cons (pv 4) pa_nil)))) (pss_one (ps_raise rfl (takes_of rfl rfl rfl rfl) (pmk_oex T.ox_NoPact T.ini_NoPact T.ti_NoPact G_NoPact___init__ (hr.mono (by decide)) T.b_NoPact___init__ .nil pass0 rfl T.m_NoPact (by exact (pa_cons (pv 3) pa_nil))))) pss_nil)
      (pss_one (ps_expr (pe_bm PySem.F.plainAttrs_list PySem.F.slot_list_append PySem.F.type_list_append mt_append (pe_fld (pv 0) rfl) (pa_cons (pv 4) pa_nil)))))))
      (pss_one (ps_stop (ps_for (passes_of rfl) rfl (pi_wait (pi_enum rfl T.z_enumerate (pa_cons (pv 2) pa_nil))) (pg_tup rfl (pgs_cons (pg_name (i := 3) sc_Pacts___init__.nd rfl (Or.inl rfl)) (pgs_cons (pg_name (i := 5) sc_Pacts___init__.nd rfl (Or.inl rfl)) pgs_nil))) (pss_cons (ps_if (pt_not (pt_val (pe_meth (pv 0) T.cl_Pacts T.mt_Pacts_fits_helper G_Pacts_fits_helper (hr.mono (by decide)) T.b_Pacts_fits_helper .nil pass0 (pa_cons (pv 5) pa_nil)))) (pss_one (ps_raise rfl (takes_of rfl rfl rfl rfl) (pmk_oex T.ox_NoPact T.ini_NoPact T.ti_NoPact G_NoPact___init__ (hr.mono (by decide)) T.b_NoPact___init__ .nil pass0 rfl T.m_NoPact (by exact (pa_cons (pe_op op_add (pe_callB call_lenK (by rfl) T.z_len PySem.boot_len (pa_cons (pv 1) pa_nil)) (pv 3)) pa_nil))))) pss_nil)
      (pss_one (ps_dput (hu_of hr) (pe_fld (pv 0) rfl) (pe_ix ix_tup (pv 5) pe_int (fun _ _ => rfl)) (pv 5) rfl))))))))), ?_⟩
    refine ⟨Nat.zero_le _, fun kp hkp => ?_⟩
    have nxp : x ≠ kp := ne_of_none hx hkp
    walk_at "go"
    intro kd hkd
    have nxd : x ≠ kd := fun z => by rw [← z, upd_same] at hkd; cases hkd
    have hkd1 : upd H kp (.lst []) kd = none := by rw [upd_ne nxd.symm] at hkd; exact hkd
    have npd : kp ≠ kd := fun z => by rw [← z, upd_same] at hkd1; cases hkd1
    have hkd2 : H kd = none := by rw [upd_ne npd.symm] at hkd1; exact hkd1
    walk_at "go"
    obtain ⟨H0, e0⟩ : ∃ H0, H0 = upd (upd (upd (upd H kp (.lst [])) x (.ins a.c_Pacts dx [(("kept_pairs" : Str), V.ref kp)])) kd (.dK [])) x (.ins a.c_Pacts dx (pf kp kd)) := ⟨_, rfl⟩
    have hx0 : H0 x = some (.ins a.c_Pacts dx (pf kp kd)) := by rw [e0, upd_same]
    have hp0 : H0 kp = some (.lst []) := by rw [e0, upd_ne nxp.symm, upd_ne npd, upd_ne nxp.symm, upd_same]
    have hd0 : H0 kd = some (.dK []) := by rw [e0, upd_ne nxd.symm, upd_same]
    have k0 : ∀ y o, y ≠ x → H y = some o → H0 y = some o := fun y o n e => by
      rw [e0, upd_ne n, upd_ne (ne_of_none e hkd2), upd_ne n, upd_ne (ne_of_none e hkp)]
      exact e
    show tStop _ _ _ (upd (upd (upd (upd H kp (.lst [])) x (.ins a.c_Pacts dx [(("kept_pairs" : Str), V.ref kp)])) kd (.dK [])) x (.ins a.c_Pacts dx (pf kp kd)))
    rw [← e0]
    have nlx : pl ≠ x := ne_of PP.ls hx (by intro z; cases z)
    have nhx : hl ≠ x := ne_of HH.ls hx (by intro z; cases z)
    have hls0 := k0 _ _ nlx PP.ls
    have zl := zP.len
    have zm := zH.len
    rw [List.length_map] at zl zm
    refine stop_in ?_
    walk_at "go"
    refine wait ?_
    refine forW (walk_enum (K := K) (xs := L.map fun e => V.ref e.1)) (fun i σ H' => (∃ u3 u4, σ = [some (.ref x), some (.ref pl), some (.ref hl), u3, u4, none]) ∧ PactsAt a.c_Pacts H' x kp kd (L.take i) [] ∧ (∀ y o, y ≠ x → H y = some o → H' y = some o) ∧ ∀ j < i, ∀ p, (L.map (·.2))[j]? = some p → fitsP ((L.map (·.2)).take j) p = true) ?_ ?_ ?_ ?_
    · exact ⟨⟨_, _, rfl⟩, ⟨⟨dx, hx0⟩, ⟨hp0, fun _ h => nomatch h⟩, hd0⟩, k0, fun j hj => absurd hj (Nat.not_lt_zero _)⟩
    · rintro i σ H' _ ⟨_, _, k, _⟩
      exact SqL.of (k _ _ nlx PP.ls)
    · rintro i v σ H1 H2 hi ⟨⟨u3, u4, rfl⟩, PA, k1, af⟩ ⟨t, y1, y2, rfl, ht, rfl, hy1, hy2⟩
      have hy2 : (L.map fun e => V.ref e.1)[i]? = some y2 := hy2
      rw [List.getElem?_map] at hy2
      obtain ⟨e, he, rfl⟩ := Option.map_eq_some_iff.mp hy2
      have hem := List.mem_of_getElem? he
      have s2 : Same H1 (upd H1 t (.tup [y1, .ref e.1])) := Same.upd_new ht
      have PA2 := PA.same s2
      obtain ⟨dx2, ho2⟩ := PA2.ob
      have hpe : H e.1 = _ := PP.at_ e hem
      have hpe2 : PrAt (upd H1 t (.tup [y1, .ref e.1])) (e.1, e.2) := s2 _ _ (k1 _ _ (ne_of hpe hx (by intro z; cases z)) hpe)
      have l1 : (L.take i).length ≤ 10000 := by rw [List.length_take]; omega
      have hgm : e.2 ∈ L.map (·.2) := List.mem_map.mpr ⟨e, hem, rfl⟩
      have l2 : e.2.near.length ≤ 100000 := Nat.le_trans (zP.nl _ hgm).1 (by decide)
      have l3 : e.2.far.length ≤ 100000 := Nat.le_trans (zP.nl _ hgm).2 (by decide)
      have hei : (L.map (·.2))[i]? = some e.2 := by rw [List.getElem?_map, he] <;> rfl
      cases hy1
      walk_at "go"
      intro H3 s3
      rw [List.map_take]
      cases hfit : fitsP ((L.map (·.2)).take i) e.2 with
      | false =>
        walk_at "go"
        refine (raise_err fun d H4 hd hd4 s4 => q2 i (.inr (.inl ⟨i, rfl, ⟨e.2, hei, hfit⟩, af⟩)) (by omega) d H4 ?_ hd4 fun y o n ey => s4 _ _ (s3 _ _ (s2 _ _ (k1 y o n ey)))).2
        cases yd : H d with
        | none => rfl
        | some o =>
          by_cases n : d = x
          · rw [n, s3 _ _ ho2] at hd; cases hd
          · rw [s3 _ _ (s2 _ _ (k1 d o n yd))] at hd; cases hd
      | true =>
        have PA3 := PA2.same s3
        obtain ⟨dx3, ho3⟩ := PA3.ob
        have hp3 := PA3.pr.ls
        walk_at "go"
        refine ⟨small_lt (by rw [List.length_map, List.length_take]; omega), wait ⟨⟨_, _, rfl⟩, ?_, ?_, ?_⟩⟩
        · refine ⟨⟨dx3, upd_get nxp ho3⟩, ⟨?_, fun d hd => ?_⟩, upd_get npd.symm PA3.pc⟩
          · rw [upd_same, List.take_add_one, he, List.map_append] <;> rfl
          · rw [List.take_add_one, he, Option.toList_some] at hd
            rcases List.mem_append.mp hd with z | z
            · have := PA3.pr.at_ d z
              exact upd_get (ne_of this hp3 (by intro z; cases z)) this
            · rw [List.mem_singleton.mp z]
              have h3 : PrAt H3 e := s3 _ _ hpe2
              exact upd_get (ne_of h3 hp3 (by intro z; cases z)) h3
        · intro y o n e
          exact upd_get (ne_of_none e hkp) (s3 _ _ (s2 _ _ (k1 y o n e)))
        · intro j hj p hp
          by_cases z : j = i
          · subst z
            rw [hei] at hp
            cases hp
            exact hfit
          · exact af j (by omega) p hp
    · rintro σ H1 ⟨⟨u3, u4, rfl⟩, PA, k1, af⟩
      rw [List.length_map, List.take_length] at PA
      have okP : okPs (L.map (·.2)) := fun j p hp => af j (by rw [List.length_map]; have := (List.getElem?_eq_some_iff.mp hp).1; rw [List.length_map] at this; exact this) p hp
      have hh1 := k1 _ _ nhx HH.ls
      refine stop_in ?_
      walk_at "go"
      refine wait ?_
      refine forW (walk_enum (K := K) (xs := M.map fun e => V.ref e.1)) (fun i σ H' => (∃ u3 u4 u5, σ = [some (.ref x), some (.ref pl), some (.ref hl), u3, u4, u5]) ∧ PactsH K a.c_Pacts H' x kp kd L (M.take i) ∧ (∀ y o, y ≠ x → H y = some o → H' y = some o) ∧ ∀ j < i, ∀ h, (M.map (·.2))[j]? = some h → fitsH (L.map (·.2)) ((M.map (·.2)).take j) h = true) ?_ ?_ ?_ ?_
      · exact ⟨⟨_, _, _, rfl⟩, ⟨PA, fun _ h => nomatch h⟩, k1, fun j hj => absurd hj (Nat.not_lt_zero _)⟩
      · rintro i σ H' _ ⟨_, _, k, _⟩
        exact SqL.of (k _ _ nhx HH.ls)
      · rintro i v σ H2 H3 hi ⟨⟨u3', u4', u5', rfl⟩, PH, k2, ah⟩ ⟨t, y1, y2, rfl, ht, rfl, hy1, hy2⟩
        have hy2 : (M.map fun e => V.ref e.1)[i]? = some y2 := hy2
        rw [List.getElem?_map] at hy2
        obtain ⟨e, he, rfl⟩ := Option.map_eq_some_iff.mp hy2
        have hem := List.mem_of_getElem? he
        have s3 : Same H2 (upd H2 t (.tup [y1, .ref e.1])) := Same.upd_new ht
        have PH3 := PH.same s3
        obtain ⟨dx3, ho3⟩ := PH3.pa.ob
        have tkH : TK H H2 := TK.of fun t o e n => k2 _ _ (fun z => by
          subst z
          rw [hx] at e
          cases e
          exact n True.intro) e
        have he3 : HlAt K (upd H2 t (.tup [y1, .ref e.1])) (e.1, e.2) := (HH.at_ e hem).tk (tkH.trans (TK.same s3))
        have hgm : e.2 ∈ M.map (·.2) := List.mem_map.mpr ⟨e, hem, rfl⟩
        have l0 : L.length ≤ 10000 := by omega
        have l1 : (M.take i).length ≤ 10000 := by rw [List.length_take]; omega
        have zz := zH.nl _ hgm
        have l2 : e.2.name.length ≤ 100000 := Nat.le_trans zz.1 (by decide)
        have l3 := zz.2.1
        have l4 := zz.2.2
        have hei : (M.map (·.2))[i]? = some e.2 := by rw [List.getElem?_map, he] <;> rfl
        cases hy1
        walk_at "go"
        intro H4 s4
        rw [List.map_take]
        cases hfit : fitsH (L.map (·.2)) ((M.map (·.2)).take i) e.2 with
        | false =>
          have lp4 : H4 pl = some (.lst (L.map fun e => V.ref e.1)) := s4 _ _ (s3 _ _ (k2 _ _ nlx PP.ls))
          have lml : (L.map fun e => V.ref e.1).length = (L.map (·.2)).length := by rw [List.length_map, List.length_map]
          walk_at "go"
          rw [lml]
          refine (raise_err fun d H5 hd hd5 s5 => q2 _ (.inr (.inr ⟨i, rfl, okP, ⟨e.2, hei, hfit⟩, ah⟩)) (by omega) d H5 ?_ hd5 fun y o n ey => s5 _ _ (s4 _ _ (s3 _ _ (k2 y o n ey)))).2
          cases yd : H d with
          | none => rfl
          | some o =>
            by_cases n : d = x
            · rw [n, s4 _ _ ho3] at hd; cases hd
            · rw [s4 _ _ (s3 _ _ (k2 d o n yd))] at hd; cases hd
        | true =>
          have PH4 := PH3.same s4
          obtain ⟨dx4, ho4⟩ := PH4.pa.ob
          have hd4 := PH4.pa.pc
          obtain ⟨tk, th, he4, _, _⟩ := he3.tk (TK.same s4)
          have hnew := fitsH_new hfit
          rw [← List.map_take, List.map_map] at hnew
          have hnew : e.2.name ∉ (M.take i).map fun e => e.2.name := hnew
          walk_at "go"
          refine ⟨DPut.k (k := Sum.inr e.2.name) hd4 (small_lt (by rw [hk_len, List.length_take]; omega)), ?_⟩
          rw [hk_put _ hnew]
          refine wait ⟨⟨_, _, _, rfl⟩, ⟨⟨⟨dx4, upd_get nxd ho4⟩, PH4.pa.pr.keep (fun o e => upd_get npd e) (fun t ys e => (TK.dK hd4 t).1 ys e), ?_⟩, fun d hd => ?_⟩, fun y o n e => upd_get (ne_of_none e hkd2) (s4 _ _ (s3 _ _ (k2 y o n e))), fun j hj p hp => ?_⟩
          · rw [upd_same, List.take_add_one, he, Option.toList_some, hk_snoc]
          · rw [List.take_add_one, he, Option.toList_some] at hd
            rcases List.mem_append.mp hd with z | z
            · exact (PH4.at_ d z).tk (TK.dK hd4)
            · rw [List.mem_singleton.mp z]
              exact (he3.tk (TK.same s4)).tk (TK.dK hd4)
          · by_cases z : j = i
            · subst z
              rw [hei] at hp
              cases hp
              exact hfit
            · exact ah j (by omega) p hp
      · rintro σ H2 ⟨⟨u3', u4', u5', rfl⟩, PH, k2, ah⟩
        rw [List.length_map, List.take_length] at PH
        exact q1 okP (fun j h hh => ah j (by rw [List.length_map]; have := (List.getElem?_eq_some_iff.mp hh).1; rw [List.length_map] at this; exact this) h hh) kp kd _ hkp hkd2 PH k2
theorem ok_NoHelper___init__ (T : Txt K mg a) : FnOk P w K mg base CX0 1 a.f_NoHelper___init__ a.d_NoHelper___init__ ["self", "name"] (spErr a.c_NoHelper "name") := by
  refine T.F_NoHelper___init__.ok sc_NoHelper___init__ (fun vs H Q E h => ?_) (fun cdv A outer s H vs Q E hr h => ?_)
  · obtain ⟨e, v, rfl, _⟩ := h
    rfl
  · obtain ⟨e, v, rfl, he, q⟩ := h
    refine ⟨_, pss_one (ps_ost (pv 0) (pv 1)), ?_⟩
    exact ⟨_, rfl, _, rfl, e, a.c_NoHelper, rfl, T.ox_NoHelper, T.na_NoHelper_name, .inl ⟨he, q⟩⟩
def spPact (K : PySem.W.Frag) (C N : Addr) : Sp := fun vs H Q E => ∃ (x kp kd : Addr) (L : List (Addr × Pr)) (M : List (Addr × Hl)) (n : Str), vs = [.ref x, .str n] ∧ PactsH K C H x kp kd L M ∧ (M.map fun e => e.2.name).Nodup ∧
  (∀ e ∈ M, e.2.name = n → Q (.ref e.1) H) ∧ ((∀ e ∈ M, e.2.name ≠ n) → ∀ d H', H d = none → H' d = some (.xd [("name", .str n)]) → Same H H' → E (.ref N) (some d) H')
theorem ok_Pacts_pact (T : Txt K mg a) : FnOk P w K mg base (L2.CX P w) 3 a.f_Pacts_pact a.d_Pacts_pact ["self", "name"] (spPact K a.c_Pacts a.c_NoHelper) := by
  have G_NoHelper___init__ := ok_NoHelper___init__ (P := P) (w := w) (base := base) T
  have cl_Pacts := T.cl_Pacts
  have na_Pacts_kept_pairs := T.na_Pacts_kept_pairs
  have na_Pacts_kept_pacts := T.na_Pacts_kept_pacts
  refine T.F_Pacts_pact.okX sc_Pacts_pact (fun vs H Q E h => ?_) (fun cdv A outer s H vs Q E hr h => ?_)
  · obtain ⟨x, kp, kd, L, M, n, rfl, _⟩ := h
    rfl
  · obtain ⟨x, kp, kd, L, M, n, rfl, PH, nd, q1, q2⟩ := h
    obtain ⟨dx, ho⟩ := PH.pa.ob
    by_cases hn : ∃ e ∈ M, e.2.name = n
    · obtain ⟨e, he, rfl⟩ := hn
      have hget : DGet H kd (.str e.2.name) (some (.ref e.1)) := by
        have := DGet.k (k := Sum.inr e.2.name) PH.pa.pc
        rw [hk_val nd he] at this
        exact this
      refine ⟨_, (pss_cons (ps_if (pt_cmp (pc_dnotin (hu_of hr) (pv 1) (pe_fld (pv 0) rfl))) (pss_one (ps_raise rfl (takes_of rfl rfl rfl rfl) (pmk_oex T.ox_NoHelper T.ini_NoHelper T.ti_NoHelper G_NoHelper___init__ (hr.mono (by decide)) T.b_NoHelper___init__ .nil pass0 rfl T.m_NoHelper (by exact (pa_cons (pv 1) pa_nil))))) pss_nil)
      (pss_one (ps_ret (pe_dget (hu_of hr) (pe_fld (pv 0) rfl) (pv 1) (fun _ _ => rfl))))), ?_⟩
      walk_at "go"
      exact q1 e he rfl
    · have hget : DGet H kd (.str n) none := by
        have := DGet.k (k := Sum.inr n) PH.pa.pc
        rw [hk_none fun z => hn (by obtain ⟨e, he, z⟩ := List.mem_map.mp z; exact ⟨e, he, z⟩)] at this
        exact this
      refine ⟨_, (pss_cons (ps_if (pt_cmp (pc_dnotin (hu_of hr) (pv 1) (pe_fld (pv 0) rfl))) (pss_one (ps_raise rfl (takes_of rfl rfl rfl rfl) (pmk_oex T.ox_NoHelper T.ini_NoHelper T.ti_NoHelper G_NoHelper___init__ (hr.mono (by decide)) T.b_NoHelper___init__ .nil pass0 rfl T.m_NoHelper (by exact (pa_cons (pv 1) pa_nil))))) pss_nil)
      (pss_one (ps_ret (pe_dget (hu_of hr) (pe_fld (pv 0) rfl) (pv 1) (fun _ _ => rfl))))), ?_⟩
      walk_at "go"
      exact (raise_err (q2 fun e he z => hn ⟨e, he, z⟩)).2
end
end Pf
set_option Elab.async false
set_option linter.all false
set_option maxRecDepth 100000
set_option maxHeartbeats 4000000
namespace Pf
open PySem L2
local macro_rules | `(tactic| walk_at "nz") => `(tactic| (show (_ : Int) ≠ 0; omega))
local macro_rules | `(tactic| walk_at "ne") => `(tactic| first | assumption | (apply Ne.symm; assumption))
local macro_rules | `(tactic| walk_at "hp") => `(tactic| first | assumption | exact upd_same | (refine upd_get ?_ ?_; walk_at "ne"; walk_at "hp"))
local macro_rules | `(tactic| walk_at "sd") => `(tactic| first
  | (with_reducible show (_ : Int) < _; omega)
  | (with_reducible show (_ : Int) ≤ _; omega)
  | (with_reducible show (_ : Nat) < _; omega)
  | (with_reducible show (_ : Nat) ≤ _; omega)
  | rfl
  | assumption
  | exact kV_int _
  | exact kV_str _
  | (show (_ : Int) ≠ 0; omega)
  | exact SqL.of (by walk_at "hp")
  | exact ⟨_, SqL.of (by walk_at "hp")⟩
  | exact ⟨_, SqT.of (by walk_at "hp")⟩
  | exact ⟨_, (by assumption)⟩
  | exact SqT.of (by walk_at "hp")
  | exact Rd.of (by walk_at "hp")
  | exact Or.inl (SqL.of (by walk_at "hp"))
  | exact Or.inr (SqT.of (by walk_at "hp"))
  | exact Or.inr (by assumption)
  | (walk_at "hp")
  | (exact Or.inl ⟨rfl, _, SqL.of (by walk_at "hp")⟩)
  | (exact Or.inl ⟨by omega, by omega⟩)
  | (exact Or.inr ⟨by omega, by omega⟩)
  | (refine ⟨?_, ?_, ?_⟩ <;> omega)
  | omega
  | (exact small_le (by first | omega | (simp only [List.length_cons, List.length_nil]; omega)))
  | (exact small_lt (by first | omega | (simp only [List.length_cons, List.length_nil]; omega)))
  | exact Nat.le_of_ble_eq_true rfl
  | exact ⟨_, rfl⟩
  | decide)
local macro_rules | `(tactic| walk_at "st") => `(tactic| first
  | with_reducible refine sq_seq ?_
  | apply Exists.intro
  | (refine And.intro ?_ ?_; (walk_at "sd")))
local macro_rules | `(tactic| walk_at "go") => `(tactic| repeat (walk_at "st"))
section
variable {P : Program} {w : World} {K : PySem.W.Frag} {mg : Str → Option Value} {base : Heap} {a : Ad}
/-! ### data: texts, pairs, helpers (lines of law03*.tmpl) -/
/-! ### lists of any texts -/
structure SW (w : Str) : Prop where
  len : w.length ≤ 100
  ok : PyData.strOk w = true
theorem IsName.ok {w : Str} (h : IsName w) : PyData.strOk w = true := by
  unfold PyData.strOk
  rw [← Array.all_toList, List.all_eq_true]
  intro c hc
  have := h.cs c hc
  exact decide_eq_true (by omega)
theorem IsName.sw {w : Str} (h : IsName w) : SW w := ⟨Nat.le_trans h.hi (by decide), h.ok⟩
structure XP (n : Nat) (ps : List Pr) : Prop where
  len : ps.length ≤ n
  sw : ∀ p ∈ ps, SW p.near ∧ SW p.far
structure XH (n : Nat) (hs : List Hl) : Prop where
  len : hs.length ≤ n
  sw : ∀ h ∈ hs, SW h.name ∧ h.takes.length ≤ n ∧ h.throws.length ≤ n ∧ (∀ w ∈ h.takes, SW w) ∧ ∀ w ∈ h.throws, SW w
theorem XP.sz {n : Nat} {ps : List Pr} (h : XP n ps) (hn : n ≤ 1000) : SzP ps := ⟨Nat.le_trans h.len hn, fun p hp => ⟨Nat.le_trans (h.sw p hp).1.len (by decide), Nat.le_trans (h.sw p hp).2.len (by decide)⟩⟩
theorem XH.sz {n : Nat} {hs : List Hl} (h : XH n hs) (hn : n ≤ 1000) : SzH hs := ⟨Nat.le_trans h.len hn, fun p hp => ⟨Nat.le_trans (h.sw p hp).1.len (by decide), Nat.le_trans (h.sw p hp).2.1 hn, Nat.le_trans (h.sw p hp).2.2.1 hn⟩⟩
abbrev odds : List Str := ["", "abcdefghi", "Ab", "a1", "a b", "-", "lent", "q"]
theorem sw_dec {w : Str} (h : (decide (w.length ≤ 100) && PyData.strOk w) = true) : SW w := by
  rw [Bool.and_eq_true] at h
  exact ⟨of_decide_eq_true h.1, h.2⟩
theorem sw_all {ws : List Str} (h : (ws.all fun w => decide (w.length ≤ 100) && PyData.strOk w) = true) : ∀ w ∈ ws, SW w := fun w hw => sw_dec (List.all_eq_true.mp h w hw)
theorem odds_sw : ∀ w ∈ odds, SW w := sw_all (by decide +kernel)
theorem strs_at' {ws : List Str} {r : Int} (h0 : 0 ≤ r) (h1 : r < (ws.length : Int)) : ∃ w, atI (ws.map V.str) r = some (.str w) ∧ w ∈ ws := by
  obtain ⟨v, e1, e2⟩ := atI_in (xs := ws.map V.str) h0 (by rw [List.length_map]; exact h1)
  rw [List.getElem?_map] at e2
  obtain ⟨w, hw, rfl⟩ := Option.map_eq_some_iff.mp e2
  exact ⟨w, e1, List.mem_of_getElem? hw⟩
theorem XP.mem {n : Nat} {L : List (Addr × Pr)} (h : XP n (L.map (·.2))) {e : Addr × Pr} (he : e ∈ L) : SW e.2.near ∧ SW e.2.far := h.sw _ (List.mem_map.mpr ⟨e, he, rfl⟩)
theorem pairs_at {L : List (Addr × Pr)} {r : Int} (h0 : 0 ≤ r) (h1 : r < (L.length : Int)) : ∃ e, atI (L.map fun e => V.ref e.1) r = some (.ref e.1) ∧ L[r.toNat]? = some e := by
  obtain ⟨v, e1, e2⟩ := atI_in (xs := L.map fun e => V.ref e.1) h0 (by rw [List.length_map]; exact h1)
  rw [List.getElem?_map] at e2
  obtain ⟨e, he, rfl⟩ := Option.map_eq_some_iff.mp e2
  exact ⟨e, e1, he⟩
theorem cutV_fromI (xs : List V) {r : Int} (h : 0 ≤ r) : cutV xs (some r) none = xs.drop r.toNat := by
  obtain ⟨k, rfl⟩ : ∃ k : Nat, r = k := ⟨r.toNat, by omega⟩
  exact cutV_from xs k
theorem cutV_toI (xs : List V) {r : Int} (h : 0 ≤ r) : cutV xs none (some r) = xs.take r.toNat := by
  obtain ⟨k, rfl⟩ : ∃ k : Nat, r = k := ⟨r.toNat, by omega⟩
  exact cutV_to xs k
theorem nodup_by {ws : List Str} (h : ∀ j w, ws[j]? = some w → w ∉ ws.take j) : ws.Nodup := by
  rw [List.nodup_iff_pairwise_ne, List.pairwise_iff_getElem]
  intro i j hi hj lt e
  refine h j ws[j] (List.getElem?_eq_getElem hj) ?_
  rw [← e]
  exact List.mem_take_iff_getElem.mpr ⟨i, by omega, rfl⟩
theorem not_nodup {ws : List Str} {j : Nat} {w : Str} (h : ws[j]? = some w) (hm : w ∈ ws.take j) : ¬ ws.Nodup := by
  intro nd
  rw [List.nodup_iff_pairwise_ne, List.pairwise_iff_getElem] at nd
  obtain ⟨i, hi, e⟩ := List.mem_take_iff_getElem.mp hm
  obtain ⟨hj, e2⟩ := List.getElem?_eq_some_iff.mp h
  exact nd i j (by omega) hj (by omega) (by rw [e, e2])
theorem slA_of {K : PySem.W.Frag} {a : Addr} {xs : List V} {lo hi : Option Int} {H : Hp} {Q : VK} (ha : SqT K H a xs) (q : ∀ r H', Same H H' → SqT K H' r (cutV xs lo hi) → Q (.ref r) H') : rSlA K (.ref a) lo hi H Q := by
  refine ⟨a, xs, rfl, ha, fun e => q a H (fun _ _ e => e) ?_, fun _ p hp => q p _ (Same.upd_new hp) (SqT.of upd_same)⟩
  unfold cutV
  rw [e.1, e.2, List.drop_zero, Nat.sub_zero, List.take_length]
  exact ha
theorem catA_of {K : PySem.W.Frag} {a b : Addr} {xs ys : List V} {H : Hp} {Q : VK} (ha : SqT K H a xs) (hb : SqT K H b ys) (hz : xs.length + ys.length ≤ sizeLine) (q : ∀ r H', Same H H' → SqT K H' r (xs ++ ys) → Q (.ref r) H') : rCatA K (.ref a) (.ref b) H Q := by
  refine ⟨a, b, xs, ys, rfl, rfl, ha, hb, hz, fun e => q b H (fun _ _ e => e) ?_, fun _ e => q a H (fun _ _ e => e) ?_, fun _ _ p hp => q p _ (Same.upd_new hp) (SqT.of upd_same)⟩
  · rw [e]; exact hb
  · rw [e, List.append_nil]; exact ha
theorem FitsH.cons {ps : List Pr} {hs : List Hl} {h : Hl} (c1 : nameB h.name = true) (c2 : h.name ∉ hs.map (·.name)) (c3 : h.side = 0 ∨ h.side = 1) (c4 : (hs.filter fun k => decide (k.side = h.side)).length ≠ 4) (c5 : h.takes.length ≤ 3) (c6 : h.throws.length ≤ 4) :
    fitsH ps hs h = ((h.takes.all fun w => decide (w ∈ hows)) && decide h.throws.Nodup && h.throws.all fun w => decide (w ∈ ps.map (·.word h.side))) := by
  unfold fitsH
  rw [c1, decide_eq_true c2, decide_eq_true c3, decide_eq_true c4, decide_eq_true c5, decide_eq_true c6] <;> rfl
def cutL (ws : List Str) (lo hi : Option Int) : List Str := (ws.drop (HT.sIx ws.length 0 lo)).take (HT.sIx ws.length ws.length hi - HT.sIx ws.length 0 lo)
theorem cutV_strs (ws : List Str) (lo hi : Option Int) : cutV (ws.map V.str) lo hi = (cutL ws lo hi).map V.str := by
  unfold cutV cutL
  rw [List.length_map, List.map_take, List.map_drop]
theorem cutL_mem {ws : List Str} {lo hi : Option Int} {w : Str} (h : w ∈ cutL ws lo hi) : w ∈ ws := List.mem_of_mem_drop (List.mem_of_mem_take h)
theorem cutL_len (ws : List Str) (lo hi : Option Int) : (cutL ws lo hi).length ≤ ws.length := by
  unfold cutL
  rw [List.length_take, List.length_drop]
  omega
theorem helpers_at {M : List (Addr × Hl)} {r : Int} (h0 : 0 ≤ r) (h1 : r < (M.length : Int)) : ∃ e, atI (M.map fun e => V.ref e.1) r = some (.ref e.1) ∧ M[r.toNat]? = some e := by
  obtain ⟨v, e1, e2⟩ := atI_in (xs := M.map fun e => V.ref e.1) h0 (by rw [List.length_map]; exact h1)
  rw [List.getElem?_map] at e2
  obtain ⟨e, he, rfl⟩ := Option.map_eq_some_iff.mp e2
  exact ⟨e, e1, he⟩
theorem XH.mem {n : Nat} {M : List (Addr × Hl)} (h : XH n (M.map (·.2))) {e : Addr × Hl} (he : e ∈ M) : SW e.2.name ∧ e.2.takes.length ≤ n ∧ e.2.throws.length ≤ n ∧ (∀ w ∈ e.2.takes, SW w) ∧ ∀ w ∈ e.2.throws, SW w := h.sw _ (List.mem_map.mpr ⟨e, he, rfl⟩)
def prD (p : Pr) : PyData := .tuple [.str p.near, .str p.far, .bool p.laden]
def strsD (ws : List Str) : PyData := .tuple (ws.map PyData.str)
def hlD (h : Hl) : PyData := .tuple [.str h.name, .int h.side, strsD h.takes, .bool h.gives, strsD h.throws]
theorem lay_strs : ∀ {ws : List Str}, (∀ w ∈ ws, SW w) → PyData.canLayAll0 (ws.map PyData.str) = true
  | [], _ => rfl
  | w :: r, h => by
    show (PyData.strOk w && PyData.canLayAll0 (r.map PyData.str)) = true
    rw [(h w List.mem_cons_self).ok, lay_strs fun q hq => h q (List.mem_cons_of_mem _ hq)] <;> rfl
theorem depth_strs : ∀ ws : List Str, PyData.depthAll (ws.map PyData.str) = 0
  | [] => rfl
  | w :: r => by
    show max 0 (PyData.depthAll (r.map PyData.str)) = 0
    rw [depth_strs r] <;> rfl
theorem lay_prs : ∀ {ps : List Pr}, (∀ p ∈ ps, SW p.near ∧ SW p.far) → PyData.canLayAll0 (ps.map prD) = true
  | [], _ => rfl
  | p :: r, h => by
    show ((PyData.strOk p.near && (PyData.strOk p.far && (true && true))) && PyData.canLayAll0 (r.map prD)) = true
    rw [(h p List.mem_cons_self).1.ok, (h p List.mem_cons_self).2.ok, lay_prs fun q hq => h q (List.mem_cons_of_mem _ hq)] <;> rfl
theorem depth_prs : ∀ ps : List Pr, PyData.depthAll (ps.map prD) ≤ 1
  | [] => Nat.zero_le _
  | p :: r => by
    show max (PyData.depth (prD p)) (PyData.depthAll (r.map prD)) ≤ 1
    have := depth_prs r
    have e : PyData.depth (prD p) = 1 := rfl
    omega
abbrev HW (h : Hl) : Prop := SW h.name ∧ (∀ w ∈ h.takes, SW w) ∧ ∀ w ∈ h.throws, SW w
theorem lay_hl {h : Hl} (hw : HW h) : PyData.canLay0 (hlD h) = true := by
  show (PyData.strOk h.name && (true && (PyData.canLayAll0 (h.takes.map PyData.str) && (true && (PyData.canLayAll0 (h.throws.map PyData.str) && true))))) = true
  rw [hw.1.ok, lay_strs hw.2.1, lay_strs hw.2.2] <;> rfl
theorem depth_hl (h : Hl) : PyData.depth (hlD h) ≤ 2 := by
  show max 0 (max 0 (max (PyData.depthAll (h.takes.map PyData.str) + 1) (max 0 (max (PyData.depthAll (h.throws.map PyData.str) + 1) 0)))) + 1 ≤ 2
  rw [depth_strs, depth_strs] <;> decide
theorem lay_hls : ∀ {hs : List Hl}, (∀ h ∈ hs, HW h) → PyData.canLayAll0 (hs.map hlD) = true
  | [], _ => rfl
  | p :: r, h => by
    show (PyData.canLay0 (hlD p) && PyData.canLayAll0 (r.map hlD)) = true
    rw [lay_hl (h p List.mem_cons_self), lay_hls fun q hq => h q (List.mem_cons_of_mem _ hq)] <;> rfl
theorem depth_hls : ∀ hs : List Hl, PyData.depthAll (hs.map hlD) ≤ 2
  | [] => Nat.zero_le _
  | p :: r => by
    show max (PyData.depth (hlD p)) (PyData.depthAll (r.map hlD)) ≤ 2
    have := depth_hls r
    have := depth_hl p
    omega
theorem shaped_prs {ps : List Pr} (h : ∀ p ∈ ps, SW p.near ∧ SW p.far) : SeqAt.shaped (.list (ps.map prD)) = true := by
  unfold SeqAt.shaped
  rw [Bool.and_eq_true]
  refine ⟨lay_prs h, decide_eq_true ?_⟩
  show PyData.depthAll (ps.map prD) + 1 ≤ 64
  have := depth_prs ps
  omega
theorem shaped_hl {h : Hl} (hw : HW h) : SeqAt.shaped (hlD h) = true := by
  unfold SeqAt.shaped
  rw [Bool.and_eq_true]
  exact ⟨lay_hl hw, decide_eq_true (Nat.le_trans (depth_hl h) (by decide))⟩
theorem shaped_both {ps : List Pr} {hs : List Hl} (h1 : ∀ p ∈ ps, SW p.near ∧ SW p.far) (h2 : ∀ h ∈ hs, HW h) : SeqAt.shaped (.list [.list (ps.map prD), .list (hs.map hlD)]) = true := by
  unfold SeqAt.shaped
  rw [Bool.and_eq_true]
  refine ⟨?_, decide_eq_true ?_⟩
  · show (PyData.canLayAll0 (ps.map prD) && (PyData.canLayAll0 (hs.map hlD) && true)) = true
    rw [lay_prs h1, lay_hls h2] <;> rfl
  · show max (PyData.depthAll (ps.map prD) + 1) (max (PyData.depthAll (hs.map hlD) + 1) 0) + 1 ≤ 64
    have := depth_prs ps
    have := depth_hls hs
    omega
theorem dp_strs {K : PySem.W.Frag} {H : Hp} : ∀ ws : List Str, DpAll K H (ws.map V.str) (ws.map PyData.str)
  | [] => .nil
  | w :: r => .cons (.str w) (dp_strs r)
theorem dp_prs {K : PySem.W.Frag} {H : Hp} : ∀ {L : List (Addr × Pr)}, (∀ e ∈ L, PrAt H e) → DpAll K H (L.map fun e => V.ref e.1) ((L.map (·.2)).map prD)
  | [], _ => .nil
  | e :: r, h => .cons (.tup (SqT.of (h e List.mem_cons_self)) (.cons (.str _) (.cons (.str _) (.cons (.bl _) .nil)))) (dp_prs fun d hd => h d (List.mem_cons_of_mem _ hd))
theorem HlAt.dp {K : PySem.W.Frag} {H : Hp} {e : Addr × Hl} (h : HlAt K H e) : Dp K H (.ref e.1) (hlD e.2) := by
  obtain ⟨tk, th, h1, h2, h3⟩ := h
  exact .tup (SqT.of h1) (.cons (.str _) (.cons (.int _) (.cons (.tup h2 (dp_strs _)) (.cons (.bl _) (.cons (.tup h3 (dp_strs _)) .nil)))))
theorem dp_hls {K : PySem.W.Frag} {H : Hp} : ∀ {M : List (Addr × Hl)}, (∀ e ∈ M, HlAt K H e) → DpAll K H (M.map fun e => V.ref e.1) ((M.map (·.2)).map hlD)
  | [], _ => .nil
  | e :: r, h => .cons (h e List.mem_cons_self).dp (dp_hls fun d hd => h d (List.mem_cons_of_mem _ hd))
theorem PairsAt.dp {K : PySem.W.Frag} {H : Hp} {D : Addr} {L : List (Addr × Pr)} (h : PairsAt H D L) : Dp K H (.ref D) (.list ((L.map (·.2)).map prD)) := .lst (SqL.of h.ls) (dp_prs h.at_)
theorem HelpersAt.dp {K : PySem.W.Frag} {H : Hp} {D : Addr} {M : List (Addr × Hl)} (h : HelpersAt K H D M) : Dp K H (.ref D) (.list ((M.map (·.2)).map hlD)) := .lst (SqL.of h.ls) (dp_hls h.at_)
theorem okHs_nodup {ps : List Pr} {hs : List Hl} (h : okHs ps hs) : (hs.map (·.name)).Nodup := nodup_by fun j w hw => by
  rw [List.getElem?_map] at hw
  obtain ⟨k, hk, rfl⟩ := Option.map_eq_some_iff.mp hw
  rw [← List.map_take]
  exact fitsH_new (h j k hk)
theorem Good.xp {ps : List Pr} (G : Good ps) : XP 8 ps := ⟨Nat.le_trans G.len (by decide), fun p hp => ⟨(G.kn p hp).sw, (G.kf p hp).sw⟩⟩
theorem hows_sw : ∀ w ∈ hows, SW w := sw_all (by decide +kernel)
theorem GoodH.xh {ps : List Pr} {hs : List Hl} (G : Good ps) (GH : GoodH ps hs) : XH 8 hs := by
  refine ⟨GH.len, fun h hh => ⟨(GH.nm h hh).sw, Nat.le_trans (GH.ok h hh).tl (by decide), Nat.le_trans (GH.ok h hh).hl (by decide), fun w hw => hows_sw w ((GH.ok h hh).tk w hw), fun w hw => ?_⟩⟩
  obtain ⟨p, hp, rfl⟩ := List.mem_map.mp ((GH.ok h hh).hw w hw)
  unfold Pr.word
  split
  · exact (G.kn p hp).sw
  · exact (G.kf p hp).sw
theorem XP.up {n m : Nat} {ps : List Pr} (h : XP n ps) (e : n ≤ m) : XP m ps := ⟨Nat.le_trans h.len e, h.sw⟩
theorem XH.up {n m : Nat} {hs : List Hl} (h : XH n hs) (e : n ≤ m) : XH m hs := ⟨Nat.le_trans h.len e, fun x hx => ⟨(h.sw x hx).1, Nat.le_trans (h.sw x hx).2.1 e, Nat.le_trans (h.sw x hx).2.2.1 e, (h.sw x hx).2.2.2⟩⟩
/-! ### which errors are told -/
theorem filter_one {α : Type} {f : α → Str} : ∀ {l : List α}, (l.map f).Nodup → ∀ {e : α}, e ∈ l → l.filter (fun d => decide (f d = f e)) = [e]
  | [], _, _, h => by cases h
  | d :: r, hn, e, h => by
    rw [List.map_cons, List.nodup_cons] at hn
    by_cases q : f d = f e
    · have hr : r.filter (fun x => decide (f x = f e)) = [] := by
        rw [List.filter_eq_nil_iff]
        intro x hx z
        exact hn.1 (by rw [q, ← of_decide_eq_true z]; exact List.mem_map.mpr ⟨x, hx, rfl⟩)
      have hd : d = e := by
        rcases List.mem_cons.mp h with z | z
        · exact z.symm
        · exact absurd (q ▸ List.mem_map.mpr ⟨e, z, rfl⟩ : f d ∈ r.map f) hn.1
      rw [List.filter_cons_of_pos (by simp [q]), hr, hd]
    · rw [List.filter_cons_of_neg (by simp [q])]
      rcases List.mem_cons.mp h with z | z
      · exact absurd (by rw [z]) q
      · exact filter_one hn.2 z
def crossed (ps : List Pr) (h : Hl) (s : Int) : List Str := h.throws.flatMap fun w => (ps.filter fun p => decide (p.word h.side = w)).map (·.word s)
theorem Good.words {ps : List Pr} (G : Good ps) {s : Int} (hs : s = 0 ∨ s = 1) : (ps.map (·.word s)).Nodup := by
  rcases hs with rfl | rfl
  · exact G.nn
  · exact G.nf
theorem flat_map {α β : Type} {f : α → List β} {g : α → β} : ∀ {l : List α}, (∀ x ∈ l, f x = [g x]) → l.flatMap f = l.map g
  | [], _ => rfl
  | x :: r, h => by
    rw [List.flatMap_cons, h x List.mem_cons_self, flat_map fun y hy => h y (List.mem_cons_of_mem _ hy)] <;> rfl
theorem crossed_own {ps : List Pr} {h : Hl} (G : Good ps) (O : HOk ps h) : crossed ps h h.side = h.throws := by
  unfold crossed
  rw [flat_map (g := fun w => w), List.map_id']
  intro w hw
  obtain ⟨p, hp, rfl⟩ := List.mem_map.mp (O.hw w hw)
  rw [filter_one (f := fun p : Pr => p.word h.side) (G.words O.sd) hp] <;> rfl
/-- the word over there -/
def overW (ps : List Pr) (s : Int) (w : Str) : Str := ((ps.filter fun p => decide (p.word s = w)).map (·.word (1 - s))).headD w
theorem over_of {ps : List Pr} (G : Good ps) {s : Int} (hs : s = 0 ∨ s = 1) {p : Pr} (hp : p ∈ ps) : overW ps s (p.word s) = p.word (1 - s) := by
  unfold overW
  rw [filter_one (f := fun p : Pr => p.word s) (G.words hs) hp] <;> rfl
theorem crossed_over {ps : List Pr} {h : Hl} (G : Good ps) (O : HOk ps h) {s : Int} (hs : s = 1 - h.side) : crossed ps h s = h.throws.map (overW ps h.side) := by
  subst hs
  unfold crossed
  refine flat_map fun w hw => ?_
  obtain ⟨p, hp, rfl⟩ := List.mem_map.mp (O.hw w hw)
  rw [over_of G O.sd hp, filter_one (f := fun p : Pr => p.word h.side) (G.words O.sd) hp] <;> rfl
/-! ### a line tells its pact -/
def htail (g : Bool) (zs : List Str) : List Str := (if g = true then (["gives"] : List Str) else []) ++ (if 0 < zs.length then (["throws"] : List Str) ++ zs else [])
def hwords (h : Hl) : List Str := (["helper", h.name, Str.ofString (toString h.side)] : List Str) ++ h.takes ++ htail h.gives h.throws
def hline (h : Hl) : Str := Txt.join " " (hwords h)
def noB (w : Str) : Prop := 32 ∉ w.cps.toList
structure WfH (h : Hl) : Prop where
  nm : IsName h.name
  sd : h.side = 0 ∨ h.side = 1
  tk : ∀ w ∈ h.takes, w ∈ hows
  th : ∀ w ∈ h.throws, IsName w
theorem IsName.noB {w : Str} (h : IsName w) : noB w := fun z => by
  have := h.cs _ z
  omega
theorem noB_all {ws : List Str} (h : (ws.all fun w => w.cps.toList.all fun c => decide (c ≠ 32)) = true) : ∀ w ∈ ws, noB w := fun w hw z => by
  have h1 := List.all_eq_true.mp h w hw
  exact of_decide_eq_true (List.all_eq_true.mp h1 _ z) rfl
theorem marks_noB : ∀ w ∈ (["helper", "gives", "throws", "lent", "given", Str.ofString (toString (0 : Int)), Str.ofString (toString (1 : Int))] : List Str), noB w := noB_all (by decide +kernel)
theorem side_noB {s : Int} (h : s = 0 ∨ s = 1) : noB (Str.ofString (toString s)) := by
  rcases h with rfl | rfl
  · exact marks_noB _ (by simp)
  · exact marks_noB _ (by simp)
theorem hwords_noB {h : Hl} (W : WfH h) : ∀ w ∈ hwords h, noB w := by
  intro w hw
  unfold hwords htail at hw
  rcases List.mem_append.mp hw with z | z
  · rcases List.mem_append.mp z with y | y
    · rcases List.mem_cons.mp y with rfl | y
      · exact marks_noB _ (by simp)
      · rcases List.mem_cons.mp y with rfl | y
        · exact W.nm.noB
        · rw [List.mem_singleton.mp y]
          exact side_noB W.sd
    · have := W.tk w y
      unfold hows at this
      rcases List.mem_cons.mp this with rfl | q
      · exact marks_noB _ (by simp)
      · rw [List.mem_singleton.mp q]
        exact marks_noB _ (by simp)
  · rcases List.mem_append.mp z with y | y
    · split at y
      · rw [List.mem_singleton.mp y]
        exact marks_noB _ (by simp)
      · cases y
    · split at y
      · rcases List.mem_append.mp y with q | q
        · rw [List.mem_singleton.mp q]
          exact marks_noB _ (by simp)
        · exact (W.th w q).noB
      · cases y
theorem tl_inj {x y : Str} (h : TL.tl x = TL.tl y) : x = y := by
  obtain ⟨a⟩ := x
  obtain ⟨b⟩ := y
  have : a.toList = b.toList := h
  rw [Array.toList_inj.mp this]
theorem join_inj {xs ys : List Str} (h1 : xs ≠ []) (h2 : ys ≠ []) (n1 : ∀ w ∈ xs, noB w) (n2 : ∀ w ∈ ys, noB w) (h : Txt.join " " xs = Txt.join " " ys) : xs = ys := by
  rw [TL.join_eq, TL.join_eq] at h
  have h3 := congrArg TL.tl h
  rw [TL.tl_join, TL.tl_join] at h3
  have e0 : TL.tl (" " : Str) = [32] := by decide +kernel
  rw [e0] at h3
  have e1 := TL.spl_join (s := 32) (S := []) (parts := xs.map TL.tl) (by simpa using h1) (fun p hp => by
    obtain ⟨w, hw, rfl⟩ := List.mem_map.mp hp
    exact n1 w hw)
  have e2 := TL.spl_join (s := 32) (S := []) (parts := ys.map TL.tl) (by simpa using h2) (fun p hp => by
    obtain ⟨w, hw, rfl⟩ := List.mem_map.mp hp
    exact n2 w hw)
  rw [h3, e2] at e1
  exact (List.map_inj_right (fun x y h => tl_inj h)).mp e1.symm
theorem span_inj {p : Str → Prop} : ∀ {t1 t2 r1 r2 : List Str}, (∀ w ∈ t1, p w) → (∀ w ∈ t2, p w) → (∀ w, r1.head? = some w → ¬ p w) → (∀ w, r2.head? = some w → ¬ p w) → t1 ++ r1 = t2 ++ r2 → t1 = t2 ∧ r1 = r2
  | [], [], _, _, _, _, _, _, e => ⟨rfl, e⟩
  | [], b :: t2, r1, r2, _, h2, g1, _, e => by
    have e : r1 = b :: (t2 ++ r2) := e
    exact absurd (h2 b List.mem_cons_self) (g1 b (by rw [e] <;> rfl))
  | a :: t1, [], r1, r2, h1, _, _, g2, e => by
    have e : a :: (t1 ++ r1) = r2 := e
    exact absurd (h1 a List.mem_cons_self) (g2 a (by rw [← e] <;> rfl))
  | a :: t1, b :: t2, r1, r2, h1, h2, g1, g2, e => by
    have e : a :: (t1 ++ r1) = b :: (t2 ++ r2) := e
    have e1 := List.cons.inj e
    have := span_inj (fun w hw => h1 w (List.mem_cons_of_mem _ hw)) (fun w hw => h2 w (List.mem_cons_of_mem _ hw)) g1 g2 e1.2
    exact ⟨by rw [e1.1, this.1], this.2⟩
theorem mark_ne : ("gives" : Str) ≠ "throws" := by decide +kernel
theorem gives_no : ("gives" : Str) ∉ hows := by decide +kernel
theorem throws_no : ("throws" : Str) ∉ hows := by decide +kernel
theorem thr_inj {z1 z2 : List Str} (h : (if 0 < z1.length then (["throws"] : List Str) ++ z1 else []) = (if 0 < z2.length then (["throws"] : List Str) ++ z2 else [])) : z1 = z2 := by
  cases z1 with
  | nil =>
    cases z2 with
    | nil => rfl
    | cons b r => cases h
  | cons a q =>
    cases z2 with
    | nil => cases h
    | cons b r => exact (List.cons.inj h).2
theorem htail_inj {g1 g2 : Bool} {z1 z2 : List Str} (h : htail g1 z1 = htail g2 z2) : g1 = g2 ∧ z1 = z2 := by
  unfold htail at h
  have bad : ∀ z1 z2 : List Str, (["gives"] : List Str) ++ (if 0 < z1.length then (["throws"] : List Str) ++ z1 else []) ≠ [] ++ (if 0 < z2.length then (["throws"] : List Str) ++ z2 else []) := by
    intro z1 z2 e
    cases z2 with
    | nil => cases e
    | cons b r => exact mark_ne (List.cons.inj e).1
  cases g1 with
  | true =>
    cases g2 with
    | true => exact ⟨rfl, thr_inj (List.cons.inj h).2⟩
    | false => exact absurd h (bad z1 z2)
  | false =>
    cases g2 with
    | true => exact absurd h.symm (bad z2 z1)
    | false => exact ⟨rfl, thr_inj h⟩
theorem htail_head (g : Bool) (zs : List Str) : ∀ w, (htail g zs).head? = some w → ¬ w ∈ hows := by
  intro w h
  unfold htail at h
  cases g with
  | true =>
    have h : some ("gives" : Str) = some w := h
    rw [← Option.some.inj h]
    exact gives_no
  | false =>
    cases zs with
    | nil => cases h
    | cons z r =>
      have h : some ("throws" : Str) = some w := h
      rw [← Option.some.inj h]
      exact throws_no
theorem side_inj {a b : Int} (ha : a = 0 ∨ a = 1) (hb : b = 0 ∨ b = 1) (h : Str.ofString (toString a) = Str.ofString (toString b)) : a = b := by
  have n : Str.ofString (toString (0 : Int)) ≠ Str.ofString (toString (1 : Int)) := by decide +kernel
  rcases ha with rfl | rfl <;> rcases hb with rfl | rfl
  · rfl
  · exact absurd h n
  · exact absurd h.symm n
  · rfl
theorem hline_inj {x y : Hl} (wx : WfH x) (wy : WfH y) (h : hline x = hline y) : x = y := by
  have e := join_inj (by unfold hwords; simp) (by unfold hwords; simp) (hwords_noB wx) (hwords_noB wy) h
  unfold hwords at e
  rw [List.append_assoc, List.append_assoc] at e
  have e1 := List.cons.inj e
  have e2 := List.cons.inj e1.2
  have e3 := List.cons.inj e2.2
  have e4 := span_inj (p := fun w => w ∈ hows) wx.tk wy.tk (htail_head _ _) (htail_head _ _) e3.2
  have e5 := htail_inj e4.2
  have e6 := side_inj wx.sd wy.sd e3.1
  obtain ⟨n1, s1, t1, g1, z1⟩ := x
  obtain ⟨n2, s2, t2, g2, z2⟩ := y
  have a1 : n1 = n2 := e2.1
  have a2 : s1 = s2 := e6
  have a3 : t1 = t2 := e4.1
  have a4 : g1 = g2 := e5.1
  have a5 : z1 = z2 := e5.2
  rw [a1, a2, a3, a4, a5]
theorem GoodH.wf {ps : List Pr} {hs : List Hl} (G : Good ps) (GH : GoodH ps hs) : ∀ h ∈ hs, WfH h := fun h hh => ⟨GH.nm h hh, (GH.ok h hh).sd, (GH.ok h hh).tk, fun w hw => by
  obtain ⟨p, hp, rfl⟩ := List.mem_map.mp ((GH.ok h hh).hw w hw)
  unfold Pr.word
  split
  · exact G.kn p hp
  · exact G.kf p hp⟩
theorem lines_inj : ∀ {xs ys : List Hl}, (∀ h ∈ xs, WfH h) → (∀ h ∈ ys, WfH h) → xs.map hline = ys.map hline → xs = ys
  | [], [], _, _, _ => rfl
  | [], y :: r, _, _, e => by cases e
  | x :: q, [], _, _, e => by cases e
  | x :: q, y :: r, h1, h2, e => by
    have e1 := List.cons.inj e
    rw [hline_inj (h1 x List.mem_cons_self) (h2 y List.mem_cons_self) e1.1, lines_inj (fun h hh => h1 h (List.mem_cons_of_mem _ hh)) (fun h hh => h2 h (List.mem_cons_of_mem _ hh)) e1.2]
/-! ### lists that fit -/
theorem Good.okPs {ps : List Pr} (G : Good ps) : okPs ps := fun _ _ h => good_fits G h
theorem GoodH.okHs {ps : List Pr} {hs : List Hl} (GH : GoodH ps hs) : okHs ps hs := fun i h hi => by
  have hm := List.mem_of_getElem? hi
  have hlt := (List.getElem?_eq_some_iff.mp hi).1
  have hsplit : hs = hs.take i ++ h :: hs.drop (i + 1) := by
    have := List.take_append_drop i hs
    rw [List.drop_eq_getElem_cons hlt, (List.getElem?_eq_some_iff.mp hi).2] at this
    exact this.symm
  have nd := GH.nd
  have few := GH.few h.side
  rw [hsplit, List.map_append, List.nodup_append] at nd
  rw [hsplit, List.filter_append, List.length_append, List.filter_cons_of_pos (by simp), List.length_cons] at few
  have O := GH.ok h hm
  rw [FitsH.cons (nameB_iff.mpr (GH.nm h hm)) (fun z => nd.2.2 _ z _ (by rw [List.map_cons]; exact List.mem_cons_self) rfl) O.sd (by omega) O.tl O.hl, Bool.and_eq_true, Bool.and_eq_true, List.all_eq_true, List.all_eq_true]
  exact ⟨⟨fun w hw => decide_eq_true (O.tk w hw), decide_eq_true O.hn⟩, fun w hw => decide_eq_true (O.hw w hw)⟩
/-- the lists with one thing otherwise: still pacts, other ones -/
structure Oth (ps : List Pr) (hs : List Hl) (ps' : List Pr) (hs' : List Hl) : Prop where
  g : Good ps'
  gh : GoodH ps' hs'
  un : ps' ≠ ps ∨ hs' ≠ hs
theorem GoodH.perm {ps : List Pr} {hs hs' : List Hl} (GH : GoodH ps hs) (p : hs'.Perm hs) : GoodH ps hs' :=
  ⟨fun h hh => GH.ok h (p.mem_iff.mp hh), (p.map _).nodup_iff.mpr GH.nd, fun h hh => GH.nm h (p.mem_iff.mp hh), fun s => by rw [(p.filter _).length_eq]; exact GH.few s, by rw [p.length_eq]; exact GH.len⟩
theorem GoodH.sub {ps : List Pr} {hs hs' : List Hl} (GH : GoodH ps hs) (p : hs'.Sublist hs) : GoodH ps hs' :=
  ⟨fun h hh => GH.ok h (p.subset hh), (p.map _).nodup GH.nd, fun h hh => GH.nm h (p.subset hh), fun s => Nat.le_trans (p.filter _).length_le (GH.few s), Nat.le_trans p.length_le GH.len⟩
/-- the same names and sides -/
theorem GoodH.row {ps ps' : List Pr} {hs hs' : List Hl} (GH : GoodH ps hs) (e : hs'.map (fun h => (h.name, h.side)) = hs.map fun h => (h.name, h.side)) (ok : ∀ h ∈ hs', HOk ps' h) : GoodH ps' hs' := by
  have e1 : hs'.map (·.name) = hs.map (·.name) := by
    have := congrArg (List.map Prod.fst) e
    rw [List.map_map, List.map_map] at this
    exact this
  have e2 : hs'.map (·.side) = hs.map (·.side) := by
    have := congrArg (List.map Prod.snd) e
    rw [List.map_map, List.map_map] at this
    exact this
  refine ⟨ok, by rw [e1]; exact GH.nd, fun h hh => ?_, fun s => ?_, ?_⟩
  · have : h.name ∈ hs'.map (·.name) := List.mem_map.mpr ⟨h, hh, rfl⟩
    rw [e1] at this
    obtain ⟨k, hk, q⟩ := List.mem_map.mp this
    rw [← q]
    exact GH.nm k hk
  · have q := GH.few s
    have f : ∀ l : List Hl, (l.filter fun h => decide (h.side = s)).length = ((l.map (·.side)).filter fun z => decide (z = s)).length := fun l => by
      rw [List.filter_map, List.length_map] <;> rfl
    rw [f] at q ⊢
    rw [e2]
    exact q
  · have := congrArg List.length e1
    rw [List.length_map, List.length_map] at this
    rw [this]
    exact GH.len
theorem GoodH.words {ps ps' : List Pr} {hs : List Hl} (GH : GoodH ps hs) (h : ∀ s w, w ∈ ps.map (·.word s) → w ∈ ps'.map (·.word s)) : GoodH ps' hs :=
  GH.row rfl fun x hx => ⟨(GH.ok x hx).sd, (GH.ok x hx).tl, (GH.ok x hx).tk, (GH.ok x hx).hl, (GH.ok x hx).hn, fun w hw => h _ _ ((GH.ok x hx).hw w hw)⟩
theorem Good.perm {ps ps' : List Pr} (G : Good ps) (p : ps'.Perm ps) : Good ps' :=
  ⟨by rw [p.length_eq]; exact G.len, (p.map _).nodup_iff.mpr G.nn, (p.map _).nodup_iff.mpr G.nf, fun x hx => G.kn x (p.mem_iff.mp hx), fun x hx => G.kf x (p.mem_iff.mp hx)⟩
theorem swap_perm {α : Type} {l : List α} {i : Nat} {x y : α} (h1 : l[i]? = some x) (h2 : l[i + 1]? = some y) : (l.take i ++ [y, x] ++ l.drop (i + 2)).Perm l ∧ l = l.take i ++ [x, y] ++ l.drop (i + 2) := by
  have l1 := (List.getElem?_eq_some_iff.mp h1).1
  have l2 := (List.getElem?_eq_some_iff.mp h2).1
  have e : l = l.take i ++ [x, y] ++ l.drop (i + 2) := by
    have := List.take_append_drop i l
    rw [List.drop_eq_getElem_cons l1, List.drop_eq_getElem_cons l2, (List.getElem?_eq_some_iff.mp h1).2, (List.getElem?_eq_some_iff.mp h2).2] at this
    rw [List.append_assoc]
    exact this.symm
  refine ⟨?_, e⟩
  have p : (l.take i ++ [y, x] ++ l.drop (i + 2)).Perm (l.take i ++ [x, y] ++ l.drop (i + 2)) := ((List.Perm.swap x y []).append_left _).append_right _
  rw [← e] at p
  exact p
theorem swap_ne {α : Type} {l : List α} {i : Nat} {x y : α} (h1 : l[i]? = some x) (h2 : l[i + 1]? = some y) (n : x ≠ y) : l.take i ++ [y, x] ++ l.drop (i + 2) ≠ l := fun z => by
  have e := (swap_perm h1 h2).2
  rw [e] at z
  have l1 := (List.getElem?_eq_some_iff.mp h1).1
  rw [← e] at z
  have z2 : l.take i ++ [y, x] ++ l.drop (i + 2) = l.take i ++ [x, y] ++ l.drop (i + 2) := z.trans e
  rw [List.append_assoc, List.append_assoc] at z2
  exact n (List.cons.inj (List.append_cancel_left z2)).1.symm
theorem put_at {α : Type} {l : List α} {i : Nat} {x : α} (h1 : l[i]? = some x) : l = l.take i ++ [x] ++ l.drop (i + 1) := by
  have l1 := (List.getElem?_eq_some_iff.mp h1).1
  have := List.take_append_drop i l
  rw [List.drop_eq_getElem_cons l1, (List.getElem?_eq_some_iff.mp h1).2] at this
  rw [List.append_assoc]
  exact this.symm
theorem put_ne {α : Type} {l : List α} {i : Nat} {x y : α} (h1 : l[i]? = some x) (n : x ≠ y) : l.take i ++ [y] ++ l.drop (i + 1) ≠ l := fun z => by
  have z2 : l.take i ++ [y] ++ l.drop (i + 1) = l.take i ++ [x] ++ l.drop (i + 1) := z.trans (put_at h1)
  rw [List.append_assoc, List.append_assoc] at z2
  exact n (List.cons.inj (List.append_cancel_left z2)).1.symm
theorem nodup_two {α β : Type} {f : α → β} {l : List α} {i : Nat} {x y : α} (nd : (l.map f).Nodup) (h1 : l[i]? = some x) (h2 : l[i + 1]? = some y) : x ≠ y := fun z => by
  have e := (swap_perm h1 h2).2
  rw [e, z, List.map_append, List.map_append, List.nodup_append, List.nodup_append] at nd
  have := nd.1.2.1
  simp at this
theorem oth_swap {ps : List Pr} {hs : List Hl} (G : Good ps) (GH : GoodH ps hs) {i : Nat} {x y : Hl} (h1 : hs[i]? = some x) (h2 : hs[i + 1]? = some y) : Oth ps hs ps (hs.take i ++ [y, x] ++ hs.drop (i + 2)) :=
  ⟨G, GH.perm (swap_perm h1 h2).1, .inr (swap_ne h1 h2 (nodup_two GH.nd h1 h2))⟩
theorem oth_row {ps : List Pr} {hs : List Hl} (G : Good ps) (GH : GoodH ps hs) {i : Nat} {x y : Hl} (h1 : hs[i]? = some x) (e1 : y.name = x.name) (e2 : y.side = x.side) (O : HOk ps y) (n : y ≠ x) : Oth ps hs ps (hs.take i ++ [y] ++ hs.drop (i + 1)) := by
  refine ⟨G, GH.row ?_ fun h hh => ?_, .inr (put_ne h1 n.symm)⟩
  · have e : hs.map (fun h => (h.name, h.side)) = (hs.take i ++ [x] ++ hs.drop (i + 1)).map fun h => (h.name, h.side) := congrArg _ (put_at h1)
    rw [e, List.map_append, List.map_append, List.map_append, List.map_append, List.map_cons, List.map_cons, e1, e2]
  · rcases List.mem_append.mp hh with z | z
    · rcases List.mem_append.mp z with y | y
      · exact GH.ok h (List.mem_of_mem_take y)
      · rw [List.mem_singleton.mp y]
        exact O
    · exact GH.ok h (List.mem_of_mem_drop z)
theorem oth_last {ps : List Pr} {hs : List Hl} (G : Good ps) (GH : GoodH ps hs) (h : hs ≠ []) : Oth ps hs ps hs.dropLast := by
  refine ⟨G, GH.sub (List.dropLast_sublist hs), .inr fun z => ?_⟩
  have := congrArg List.length z
  rw [List.length_dropLast] at this
  have : 0 < hs.length := List.length_pos_iff.mpr h
  omega
theorem oth_one {ps : List Pr} (G : Good ps) : Oth ps [] ps [⟨"q", 0, [], true, []⟩] := by
  refine ⟨G, ⟨fun h hh => ?_, by decide +kernel, fun h hh => ?_, fun s => Nat.le_trans (List.length_filter_le _ _) (by decide), by decide⟩, .inr (by intro z; cases z)⟩
  · rw [List.mem_singleton.mp hh]
    exact ⟨.inl rfl, by decide, (fun w hw => nomatch hw), by decide, List.nodup_nil, (fun w hw => nomatch hw)⟩
  · rw [List.mem_singleton.mp hh]
    exact isName_dec (by decide +kernel)
theorem oth_pswap {ps : List Pr} {hs : List Hl} (G : Good ps) (GH : GoodH ps hs) {i : Nat} {x y : Pr} (h1 : ps[i]? = some x) (h2 : ps[i + 1]? = some y) : Oth ps hs (ps.take i ++ [y, x] ++ ps.drop (i + 2)) hs :=
  ⟨G.perm (swap_perm h1 h2).1, GH.words fun s w hw => ((swap_perm h1 h2).1.map _).mem_iff.mpr hw, .inl (swap_ne h1 h2 (nodup_two G.nn h1 h2))⟩
theorem Good.put {ps : List Pr} (G : Good ps) {i : Nat} {x y : Pr} (h1 : ps[i]? = some x) (n1 : y.near = x.near ∨ y.near ∉ ps.map (·.near)) (n2 : y.far = x.far ∨ y.far ∉ ps.map (·.far)) (k1 : IsName y.near) (k2 : IsName y.far) : Good (ps.take i ++ [y] ++ ps.drop (i + 1)) := by
  have e := put_at h1
  have sp : ∀ {f : Pr → Str}, (ps.map f).Nodup → (f y = f x ∨ f y ∉ ps.map f) → ((ps.take i ++ [y] ++ ps.drop (i + 1)).map f).Nodup := fun {f} nd h => by
    rcases h with q | q
    · have : (ps.take i ++ [y] ++ ps.drop (i + 1)).map f = ps.map f := by
        have e2 := congrArg (List.map f) e
        rw [List.map_append, List.map_append, List.map_cons] at e2
        rw [e2, List.map_append, List.map_append, List.map_cons, q]
      rw [this]
      exact nd
    · have e2 : ps.map f = (ps.take i).map f ++ [f x] ++ (ps.drop (i + 1)).map f := by
        have e2 := congrArg (List.map f) e
        rw [List.map_append, List.map_append] at e2
        exact e2
      have p1 : ((ps.take i).map f ++ [f y] ++ (ps.drop (i + 1)).map f).Perm (f y :: ((ps.take i).map f ++ (ps.drop (i + 1)).map f)) := by
        rw [List.append_assoc]
        exact List.perm_middle
      have p2 : ((ps.take i).map f ++ [f x] ++ (ps.drop (i + 1)).map f).Perm (f x :: ((ps.take i).map f ++ (ps.drop (i + 1)).map f)) := by
        rw [List.append_assoc]
        exact List.perm_middle
      have nd2 := nd
      rw [e2] at nd2
      have nd3 := (List.nodup_cons.mp (p2.nodup_iff.mp nd2))
      rw [List.map_append, List.map_append]
      refine p1.nodup_iff.mpr (List.nodup_cons.mpr ⟨fun z => q ?_, nd3.2⟩)
      rw [e2]
      exact p2.mem_iff.mpr (List.mem_cons_of_mem _ z)
  have hm : ∀ p ∈ ps.take i ++ [y] ++ ps.drop (i + 1), p = y ∨ p ∈ ps := fun p hp => by
    rcases List.mem_append.mp hp with z | z
    · rcases List.mem_append.mp z with w | w
      · exact .inr (List.mem_of_mem_take w)
      · exact .inl (List.mem_singleton.mp w)
    · exact .inr (List.mem_of_mem_drop z)
  refine ⟨?_, sp G.nn n1, sp G.nf n2, fun p hp => ?_, fun p hp => ?_⟩
  · have := congrArg List.length e
    rw [List.length_append, List.length_append] at this
    rw [List.length_append, List.length_append]
    have h1 := G.len
    have e1 : [x].length = [y].length := rfl
    omega
  · rcases hm p hp with rfl | z
    · exact k1
    · exact G.kn p z
  · rcases hm p hp with rfl | z
    · exact k2
    · exact G.kf p z
theorem oth_laden {ps : List Pr} {hs : List Hl} (G : Good ps) (GH : GoodH ps hs) {i : Nat} {x : Pr} (h1 : ps[i]? = some x) : Oth ps hs (ps.take i ++ [⟨x.near, x.far, !x.laden⟩] ++ ps.drop (i + 1)) hs := by
  have hx := List.mem_of_getElem? h1
  refine ⟨G.put h1 (.inl rfl) (.inl rfl) (G.kn x hx) (G.kf x hx), GH.words fun s w hw => ?_, .inl (put_ne h1 fun z => ?_)⟩
  · have : (ps.take i ++ [(⟨x.near, x.far, !x.laden⟩ : Pr)] ++ ps.drop (i + 1)).map (·.word s) = ps.map (·.word s) := by
      have e2 := congrArg (List.map (·.word s)) (put_at h1)
      rw [List.map_append, List.map_append] at e2
      rw [e2, List.map_append, List.map_append] <;> rfl
    rw [this]
    exact hw
  · have := congrArg Pr.laden z
    cases h : x.laden <;> rw [h] at this <;> cases this
/-- a word of a side is another one; the helpers of that side throw the other one -/
def chg (s : Int) (old new : Str) (h : Hl) : Hl := if h.side = s then { h with throws := h.throws.map fun w => if w = old then new else w } else h
def Pr.put (p : Pr) (s : Int) (w : Str) : Pr := if s = 0 then { p with near := w } else { p with far := w }
theorem oth_word {ps : List Pr} {hs : List Hl} (G : Good ps) (GH : GoodH ps hs) {i : Nat} {x : Pr} (h1 : ps[i]? = some x) {s : Int} (hs' : s = 0 ∨ s = 1) {f : Str} (hf : f ∉ ps.map (·.word s)) (kf : IsName f) :
    Oth ps hs (ps.take i ++ [x.put s f] ++ ps.drop (i + 1)) (hs.map (chg s (x.word s) f)) := by
  have hx := List.mem_of_getElem? h1
  have ew : (x.put s f).word s = f := by
    rcases hs' with rfl | rfl <;> rfl
  have eo : ∀ t, (t = 0 ∨ t = 1) → t ≠ s → (x.put s f).word t = x.word t := fun t ht n => by
    rcases hs' with rfl | rfl <;> rcases ht with rfl | rfl <;> first | rfl | exact absurd rfl n
  have gp : Good (ps.take i ++ [x.put s f] ++ ps.drop (i + 1)) := by
    rcases hs' with rfl | rfl
    · exact G.put h1 (.inr hf) (.inl rfl) kf (G.kf x hx)
    · exact G.put h1 (.inl rfl) (.inr hf) (G.kn x hx) kf
  have e2 : ∀ t, ps.map (·.word t) = (ps.take i).map (·.word t) ++ [x.word t] ++ (ps.drop (i + 1)).map (·.word t) := fun t => by
    have e2 := congrArg (List.map (·.word t)) (put_at h1)
    rw [List.map_append, List.map_append] at e2
    exact e2
  have nx : x.word s ∈ ps.map (·.word s) := List.mem_map.mpr ⟨x, hx, rfl⟩
  refine ⟨gp, GH.row ?_ fun h hh => ?_, .inl (put_ne h1 fun z => ?_)⟩
  · rw [List.map_map]
    apply List.map_congr_left
    intro h hh
    show ((chg s (x.word s) f h).name, (chg s (x.word s) f h).side) = _
    unfold chg
    split <;> rfl
  · obtain ⟨k, hk, rfl⟩ := List.mem_map.mp hh
    have O := GH.ok k hk
    unfold chg
    split
    · rename_i es
      refine ⟨O.sd, O.tl, O.tk, by rw [List.length_map]; exact O.hl, ?_, fun w hw => ?_⟩
      · refine List.Pairwise.map (R := fun a b => a ≠ b ∧ a ∈ k.throws ∧ b ∈ k.throws) _ (fun a b hab => ?_) ?_
        · have fa : ∀ a ∈ k.throws, a ≠ f := fun a ha z => hf (by rw [← z, ← es]; exact O.hw a ha)
          by_cases ea : a = x.word s
          · by_cases eb : b = x.word s
            · exact absurd (ea.trans eb.symm) hab.1
            · rw [if_pos ea, if_neg eb]
              exact (fa b hab.2.2).symm
          · by_cases eb : b = x.word s
            · rw [if_neg ea, if_pos eb]
              exact fa a hab.2.1
            · rw [if_neg ea, if_neg eb]
              exact hab.1
        · have nd := O.hn
          rw [List.nodup_iff_pairwise_ne] at nd
          exact List.Pairwise.imp_of_mem (fun ha hb hab => ⟨hab, ha, hb⟩) nd
      · obtain ⟨v, hv, rfl⟩ := List.mem_map.mp hw
        show (if v = x.word s then f else v) ∈ (ps.take i ++ [x.put s f] ++ ps.drop (i + 1)).map (·.word k.side)
        rw [es, List.map_append, List.map_append]
        by_cases ev : v = x.word s
        · rw [if_pos ev]
          refine List.mem_append.mpr (.inl (List.mem_append.mpr (.inr ?_)))
          rw [List.map_cons, ew]
          exact List.mem_cons_self
        · rw [if_neg ev]
          have := O.hw v hv
          rw [es, e2] at this
          rcases List.mem_append.mp this with z | z
          · rcases List.mem_append.mp z with y | y
            · exact List.mem_append.mpr (.inl (List.mem_append.mpr (.inl y)))
            · exact absurd (List.mem_singleton.mp y) ev
          · exact List.mem_append.mpr (.inr z)
    · rename_i es
      refine ⟨O.sd, O.tl, O.tk, O.hl, O.hn, fun w hw => ?_⟩
      have := O.hw w hw
      rw [e2] at this
      rw [List.map_append, List.map_append, List.map_cons, eo _ O.sd es]
      exact this
  · have := congrArg (·.word s) z
    have t2 : x.word s = (x.put s f).word s := this
    rw [ew] at t2
    exact hf (by rw [← t2]; exact nx)
end
end Pf
set_option Elab.async false
set_option linter.all false
set_option maxRecDepth 100000
set_option maxHeartbeats 4000000
namespace Pf
open PySem L2
local macro_rules | `(tactic| walk_at "nz") => `(tactic| (show (_ : Int) ≠ 0; omega))
local macro_rules | `(tactic| walk_at "ne") => `(tactic| first | assumption | (apply Ne.symm; assumption))
local macro_rules | `(tactic| walk_at "hp") => `(tactic| first | assumption | exact upd_same | (refine upd_get ?_ ?_; walk_at "ne"; walk_at "hp"))
local macro_rules | `(tactic| walk_at "sd") => `(tactic| first
  | (with_reducible show (_ : Int) < _; omega)
  | (with_reducible show (_ : Int) ≤ _; omega)
  | (with_reducible show (_ : Nat) < _; omega)
  | (with_reducible show (_ : Nat) ≤ _; omega)
  | rfl
  | assumption
  | exact kV_int _
  | exact kV_str _
  | (show (_ : Int) ≠ 0; omega)
  | exact SqL.of (by walk_at "hp")
  | exact ⟨_, SqL.of (by walk_at "hp")⟩
  | exact ⟨_, SqT.of (by walk_at "hp")⟩
  | exact ⟨_, (by assumption)⟩
  | exact SqT.of (by walk_at "hp")
  | exact Rd.of (by walk_at "hp")
  | exact Or.inl (SqL.of (by walk_at "hp"))
  | exact Or.inr (SqT.of (by walk_at "hp"))
  | exact Or.inr (by assumption)
  | (walk_at "hp")
  | (exact Or.inl ⟨rfl, _, SqL.of (by walk_at "hp")⟩)
  | (exact Or.inl ⟨by omega, by omega⟩)
  | (exact Or.inr ⟨by omega, by omega⟩)
  | (refine ⟨?_, ?_, ?_⟩ <;> omega)
  | omega
  | (exact small_le (by first | omega | (simp only [List.length_cons, List.length_nil]; omega)))
  | (exact small_lt (by first | omega | (simp only [List.length_cons, List.length_nil]; omega)))
  | exact Nat.le_of_ble_eq_true rfl
  | exact ⟨_, rfl⟩
  | decide)
local macro_rules | `(tactic| walk_at "st") => `(tactic| first
  | with_reducible refine sq_seq ?_
  | apply Exists.intro
  | (refine And.intro ?_ ?_; (walk_at "sd")))
local macro_rules | `(tactic| walk_at "go") => `(tactic| repeat (walk_at "st"))
section
variable {P : Program} {w : World} {K : PySem.W.Frag} {mg : Str → Option Value} {base : Heap} {a : Ad}
theorem ok_NoWord___init__ (T : Txt K mg a) : FnOk P w K mg base CX0 1 a.f_NoWord___init__ a.d_NoWord___init__ ["self", "word"] (spErr a.c_NoWord "word") := by
  refine T.F_NoWord___init__.ok sc_NoWord___init__ (fun vs H Q E h => ?_) (fun cdv A outer s H vs Q E hr h => ?_)
  · obtain ⟨e, v, rfl, _⟩ := h
    rfl
  · obtain ⟨e, v, rfl, he, q⟩ := h
    refine ⟨_, pss_one (ps_ost (pv 0) (pv 1)), ?_⟩
    exact ⟨_, rfl, _, rfl, e, a.c_NoWord, rfl, T.ox_NoWord, T.na_NoWord_word, .inl ⟨he, q⟩⟩
/-- pair_of: the first pair with the word, or NoWord -/
def FirstW (L : List (Addr × Pr)) (w : Str) (s : Int) (e : Addr × Pr) : Prop := e ∈ L ∧ e.2.word s = w ∧ ∃ j : Nat, L[j]? = some e ∧ ∀ i < j, ∀ d, L[i]? = some d → d.2.word s ≠ w
def spPairOf (C N : Addr) : Sp := fun vs H Q E => ∃ (x kp kd : Addr) (L : List (Addr × Pr)) (kvs : List (Key × V)) (w : Str) (s : Int), vs = [.ref x, .str w, .int s] ∧ PactsAt C H x kp kd L kvs ∧ (s = 0 ∨ s = 1) ∧ 
  (∀ e, FirstW L w s e → Q (.ref e.1) H) ∧ ((∀ e ∈ L, e.2.word s ≠ w) → ∀ d H', H d = none → H' d = some (.xd [("word", .str w)]) → Same H H' → E (.ref N) (some d) H')
theorem ok_Pacts_pair_of (T : Txt K mg a) : FnOk P w K mg base (L2.CX P w) 3 a.f_Pacts_pair_of a.d_Pacts_pair_of ["self", "word", "side"] (spPairOf a.c_Pacts a.c_NoWord) := by
  have G_NoWord___init__ := ok_NoWord___init__ (P := P) (w := w) (base := base) T
  have cl_Pacts := T.cl_Pacts
  have na_Pacts_kept_pairs := T.na_Pacts_kept_pairs
  have na_Pacts_kept_pacts := T.na_Pacts_kept_pacts
  refine T.F_Pacts_pair_of.okX sc_Pacts_pair_of (fun vs H Q E h => ?_) (fun cdv A outer s H vs Q E hr h => ?_)
  · obtain ⟨x, kp, kd, L, kvs, w, s, rfl, _⟩ := h
    rfl
  · obtain ⟨x, kp, kd, L, kvs, w, s, rfl, PA, hs, q1, q2⟩ := h
    obtain ⟨dx, ho⟩ := PA.ob
    have hls := PA.pr.ls
    refine ⟨_, (pss_cons (ps_stop (ps_for (passes_of rfl) rfl (pi_wait (pi_list (by exact (pe_fld (pv 0) rfl)))) (pg_name (i := 3) sc_Pacts_pair_of.nd rfl (Or.inl rfl)) (pss_one (ps_if (pt_cmpR op_eq (pe_ix ix_tup (pv 3) (pv 2) (fun _ _ => rfl)) (pv 1) (nomark _)) (pss_one (ps_ret (pv 3))) pss_nil))))
      (pss_one (ps_raise rfl (takes_of rfl rfl rfl rfl) (pmk_oex T.ox_NoWord T.ini_NoWord T.ti_NoWord G_NoWord___init__ (hr.mono (by decide)) T.b_NoWord___init__ .nil pass0 rfl T.m_NoWord (by exact (pa_cons (pv 1) pa_nil)))))), ?_⟩
    refine sq_seq (stop_in ?_)
    walk_at "go"
    refine wait ?_
    refine forL (K := K) (a := kp) (xs := L.map fun e => V.ref e.1) (fun i σ H' => H' = H ∧ (∃ u, σ = [some (.ref x), some (.str w), some (.int s), u]) ∧ ∀ j < i, ∀ d, L[j]? = some d → d.2.word s ≠ w) ?_ ?_ ?_ ?_
    · exact ⟨rfl, ⟨_, rfl⟩, fun j hj => absurd hj (Nat.not_lt_zero _)⟩
    · rintro i σ H' _ ⟨rfl, _⟩
      exact SqL.of hls
    · rintro i y σ H' hi ⟨rfl, ⟨u, rfl⟩, hno⟩
      rw [List.getElem?_map] at hi
      obtain ⟨e, he, rfl⟩ := Option.map_eq_some_iff.mp hi
      have hp : H' e.1 = _ := PA.pr.at_ e (List.mem_of_getElem? he)
      have hat := pr_at e.2 hs
      walk_at "go"
      refine ifD (fun b => ?_) (fun b => ?_)
      · walk_at "go"
        exact q1 e ⟨List.mem_of_getElem? he, V.str.inj b, i, he, hno⟩
      · refine wait ⟨rfl, ⟨_, rfl⟩, fun j hj d hd => ?_⟩
        by_cases z : j = i
        · subst z
          rw [he] at hd
          cases hd
          exact fun z => b (congrArg V.str z)
        · exact hno j (by omega) d hd
    · rintro σ H' ⟨rfl, ⟨u, rfl⟩, hno⟩
      rw [List.length_map] at hno
      refine ⟨_, rfl, raise_err (q2 fun e he => ?_)⟩
      obtain ⟨j, hj⟩ := List.getElem?_of_mem he
      exact hno j (List.getElem?_eq_some_iff.mp hj).1 e hj
def spOver (C N : Addr) : Sp := fun vs H Q E => ∃ (x kp kd : Addr) (L : List (Addr × Pr)) (kvs : List (Key × V)) (w : Str) (s : Int), vs = [.ref x, .str w, .int s] ∧ PactsAt C H x kp kd L kvs ∧ (s = 0 ∨ s = 1) ∧ 
  (∀ e, FirstW L w s e → Q (.str (e.2.word (1 - s))) H) ∧ ((∀ e ∈ L, e.2.word s ≠ w) → ∀ d H', H d = none → H' d = some (.xd [("word", .str w)]) → Same H H' → E (.ref N) (some d) H')
theorem ok_Pacts_over (T : Txt K mg a) : FnOk P w K mg base (L2.CX P w) 4 a.f_Pacts_over a.d_Pacts_over ["self", "word", "side"] (spOver a.c_Pacts a.c_NoWord) := by
  have G_Pacts_pair_of := ok_Pacts_pair_of (P := P) (w := w) (base := base) T
  have cl_Pacts := T.cl_Pacts
  have na_Pacts_kept_pairs := T.na_Pacts_kept_pairs
  have na_Pacts_kept_pacts := T.na_Pacts_kept_pacts
  refine T.F_Pacts_over.okX sc_Pacts_over (fun vs H Q E h => ?_) (fun cdv A outer s H vs Q E hr h => ?_)
  · obtain ⟨x, kp, kd, L, kvs, w, s, rfl, _⟩ := h
    rfl
  · obtain ⟨x, kp, kd, L, kvs, w, s, rfl, PA, hs, q1, q2⟩ := h
    obtain ⟨dx, ho⟩ := PA.ob
    refine ⟨_, (pss_one (ps_ret (pe_ix ix_tup (pe_meth (pv 0) T.cl_Pacts T.mt_Pacts_pair_of G_Pacts_pair_of (hr.mono (by decide)) T.b_Pacts_pair_of .nil (passes_call (takes_of rfl rfl rfl rfl) (fun _ _ _ _ h => h)) (pa_cons (pv 1) (pa_cons (pv 2) pa_nil))) (pe_op op_sub pe_int (pv 2)) (fun _ _ => rfl)))), ?_⟩
    refine ⟨_, rfl, x, dx, _, rfl, ho, rfl, _, rfl, _, rfl, x, kp, kd, L, kvs, w, s, rfl, PA, hs, fun e he => ?_, q2⟩
    have hp : H e.1 = _ := PA.pr.at_ e he.1
    have hat := pr_at1 e.2 hs
    walk_at "go"
    exact q1 e he
theorem first_of {L : List (Addr × Pr)} {e : Addr × Pr} {s : Int} (nd : (L.map fun d => d.2.word s).Nodup) (he : e ∈ L) : FirstW L (e.2.word s) s e := by
  obtain ⟨j, hj⟩ := List.getElem?_of_mem he
  refine ⟨he, rfl, j, hj, fun i hi d hd z => ?_⟩
  have hjl := (List.getElem?_eq_some_iff.mp hj).1
  have h1 : (L.map fun d => d.2.word s)[i]? = some (e.2.word s) := by rw [List.getElem?_map, hd, ← z] <;> rfl
  have h2 : (L.map fun d => d.2.word s)[j]? = some (e.2.word s) := by rw [List.getElem?_map, hj] <;> rfl
  have := (List.getElem?_inj (by rw [List.length_map]; omega) nd).mp (h1.trans h2.symm)
  omega
theorem name_one {M : List (Addr × Hl)} {d e : Addr × Hl} (nd : (M.map fun e => e.2.name).Nodup) (hd : d ∈ M) (he : e ∈ M) (h : d.2.name = e.2.name) : d = e := by
  have h1 : d ∈ M.filter (fun x => decide (x.2.name = e.2.name)) := List.mem_filter.mpr ⟨hd, decide_eq_true h⟩
  rw [filter_one (f := fun x : Addr × Hl => x.2.name) nd he] at h1
  exact List.mem_singleton.mp h1
theorem GoodH.nd2 {ps : List Pr} {M : List (Addr × Hl)} (GH : GoodH ps (M.map (·.2))) : (M.map fun e => e.2.name).Nodup := by
  have := GH.nd
  rw [List.map_map] at this
  exact this
def spErrors (K : PySem.W.Frag) (C N : Addr) : Sp := fun vs H Q E => ∃ (x kp kd : Addr) (L : List (Addr × Pr)) (M : List (Addr × Hl)) (n : Str) (s : Int), vs = [.ref x, .str n, .int s] ∧ PactsH K C H x kp kd L M ∧ Good (L.map (·.2)) ∧ GoodH (L.map (·.2)) (M.map (·.2)) ∧ (s = 0 ∨ s = 1) ∧
  (∀ e ∈ M, e.2.name = n → ∀ D H', H D = none → H' D = some (.lst ((crossed (L.map (·.2)) e.2 s).map V.str)) → Same H H' → Q (.ref D) H') ∧
  ((∀ e ∈ M, e.2.name ≠ n) → ∀ d H', H d = none → H' d = some (.xd [("name", .str n)]) → Same H H' → E (.ref N) (some d) H')
theorem ok_Pacts_errors (T : Txt K mg a) : FnOk P w K mg base (L2.CX P w) 5 a.f_Pacts_errors a.d_Pacts_errors ["self", "name", "side"] (spErrors K a.c_Pacts a.c_NoHelper) := by
  have G_Pacts_pact := ok_Pacts_pact (P := P) (w := w) (base := base) T
  have G_Pacts_over := ok_Pacts_over (P := P) (w := w) (base := base) T
  have cl_Pacts := T.cl_Pacts
  have na_Pacts_kept_pairs := T.na_Pacts_kept_pairs
  have na_Pacts_kept_pacts := T.na_Pacts_kept_pacts
  refine T.F_Pacts_errors.okX sc_Pacts_errors (fun vs H Q E h => ?_) (fun cdv A outer s H vs Q E hr h => ?_)
  · obtain ⟨x, kp, kd, L, M, n, s, rfl, _⟩ := h
    rfl
  · obtain ⟨x, kp, kd, L, M, n, s, rfl, PH, G, GH, hs, q1, q2⟩ := h
    obtain ⟨dx, ho⟩ := PH.pa.ob
    have nd := GH.nd2
    refine ⟨_, (pss_cons (ps_set (i := 3) sc_Pacts_errors.nd rfl (Or.inr rfl) (pe_ix ix_tup (pe_meth (pv 0) T.cl_Pacts T.mt_Pacts_pact G_Pacts_pact (hr.mono (by decide)) T.b_Pacts_pact .nil (passes_call (takes_of rfl rfl rfl rfl) (fun _ _ _ _ h => h)) (pa_cons (pv 1) pa_nil)) pe_int (fun _ _ => rfl)))
      (pss_cons (ps_set (i := 4) sc_Pacts_errors.nd rfl (Or.inl rfl) (pe_callTy call_list_of (by rfl) T.z_list (by decide +kernel) (pa_cons (pe_ix ix_tup (pe_meth (pv 0) T.cl_Pacts T.mt_Pacts_pact G_Pacts_pact (hr.mono (by decide)) T.b_Pacts_pact .nil (passes_call (takes_of rfl rfl rfl rfl) (fun _ _ _ _ h => h)) (pa_cons (pv 1) pa_nil)) pe_int (fun _ _ => rfl)) pa_nil)))
      (pss_cons (ps_if (pt_cmpR op_eq (pv 3) (pv 2) (nomark _)) (pss_one (ps_ret (pv 4))) pss_nil)
      (pss_one (ps_ret (pe_lc (own := [("word", 5)]) (g := gName 5) (tt := tYes) rfl sc_Pacts_errors.nd (pi_list (pv 4)) (blkOk_by (own := [("word", 5)]) (N := n_Pacts_errors) (sc := defScope s_Pacts_errors) (by decide +kernel)) (fun _ _ _ _ _ => (pg_name (i := 5) sc_Pacts_errors.nd rfl (Or.inl rfl))) (fun _ _ _ _ _ => pts_nil) (fun _ _ _ _ _ => (pe_methK (pv 0) T.cl_Pacts T.mt_Pacts_over G_Pacts_over (hr.mono (by decide)) T.kb_Pacts_over_side passL (pa_cons (pv 5) pa_nil) (pk_cons (pv 3) pk_nil))))))))), ?_⟩
    by_cases hn : ∃ e ∈ M, e.2.name = n
    · obtain ⟨e, he, rfl⟩ := hn
      obtain ⟨tk, th, h1, h2, h3⟩ := PH.at_ e he
      have O := GH.ok e.2 (List.mem_map.mpr ⟨e, he, rfl⟩)
      walk_at "go"
      refine ⟨fun d hd z => ?_, fun no => absurd rfl (no e he)⟩
      obtain rfl := name_one nd hd he z
      walk_at "go"
      refine ⟨fun d' hd' z' => ?_, fun no => absurd rfl (no d he)⟩
      obtain rfl := name_one nd hd' he z'
      have hth : SqT K H th (d'.2.throws.map V.str) := h3
      walk_at "go"
      intro p hp
      obtain ⟨H1, e1⟩ : ∃ H1, H1 = upd H p (.lst (d'.2.throws.map V.str)) := ⟨_, rfl⟩
      have s1 : Same H H1 := by rw [e1]; exact Same.upd_new hp
      have hp1 : H1 p = some (.lst (d'.2.throws.map V.str)) := by rw [e1, upd_same]
      rw [← e1]
      walk_at "go"
      refine ifD (fun b => ?_) (fun b => ?_)
      · have b1 : d'.2.side = s := V.int.inj b
        have ec : crossed (L.map (·.2)) d'.2 s = d'.2.throws := by rw [← b1]; exact crossed_own G O
        walk_at "go"
        exact q1 d' he rfl p H1 hp (by rw [ec]; exact hp1) s1
      · have b1 : s = 1 - d'.2.side := by
          have : ¬ d'.2.side = s := fun z => b (congrArg V.int z)
          have := O.sd
          omega
        have ec := crossed_over G O b1
        walk_at "go"
        intro D hD
        have hD0 : H D = none := same_none' s1 hD
        refine lcL (K := K) (a := p) (xs := d'.2.throws.map V.str) (fun i H' => H' D = some (.lst (((d'.2.throws.take i).map (overW (L.map (·.2)) d'.2.side)).map V.str)) ∧ Same H1 H') ?_ ?_ ?_ ?_
        · exact ⟨upd_same, Same.upd_new hD⟩
        · exact fun i H' _ h => SqL.of (h.2 _ _ hp1)
        · rintro i y H' hi ⟨g1, g2⟩
          rw [List.getElem?_map] at hi
          obtain ⟨w1, hw1, rfl⟩ := Option.map_eq_some_iff.mp hi
          have hlt := (List.getElem?_eq_some_iff.mp hw1).1
          have hl4 := O.hl
          have PA' := (PH.same (s1.trans g2)).pa
          obtain ⟨dx', ho'⟩ := PA'.ob
          have hsd := O.sd
          have hmem := O.hw w1 (List.mem_of_getElem? hw1)
          rw [List.map_map] at hmem
          obtain ⟨l, hl, hlw⟩ := List.mem_map.mp hmem
          have hlw : l.2.word d'.2.side = w1 := hlw
          refine ⟨rfl, ?_⟩
          walk_at "go"
          refine ⟨fun l' hl' => ?_, fun no => absurd hlw (no l hl)⟩
          have eo : l'.2.word (1 - d'.2.side) = overW (L.map (·.2)) d'.2.side w1 := by
            rw [← hl'.2.1, over_of G hsd (List.mem_map.mpr ⟨l', hl'.1, rfl⟩)]
          walk_at "go"
          refine ⟨small_lt (by rw [List.length_map, List.length_map, List.length_take]; omega), wait ⟨?_, fun x o e => upd_get (ne_of_none e hD) (g2 x o e)⟩⟩
          rw [upd_same, List.take_add_one, hw1, List.map_append, List.map_append, eo] <;> rfl
        · rintro H' ⟨g1, g2⟩
          rw [List.length_map, List.take_length, ← ec] at g1
          walk_at "go"
          exact q1 d' he rfl D H' hD0 g1 (s1.trans g2)
    · walk_at "go"
      exact ⟨fun e he z => absurd ⟨e, he, z⟩ hn, q2⟩
/-! ### lines -/
theorem sum_le {k : Nat} : ∀ {ws : List Str}, (∀ w ∈ ws, w.length ≤ k) → (ws.map (·.length)).sum ≤ ws.length * k
  | [], _ => Nat.zero_le _
  | w :: r, h => by
    have h1 := h w List.mem_cons_self
    have h2 := sum_le fun v hv => h v (List.mem_cons_of_mem _ hv)
    rw [List.map_cons, List.sum_cons, List.length_cons, Nat.succ_mul]
    omega
theorem joinL_len {s : List Nat} {k : Nat} : ∀ {ps : List (List Nat)}, (∀ p ∈ ps, p.length ≤ k) → (TL.joinL s ps).length ≤ ps.length * (k + s.length)
  | [], _ => Nat.zero_le _
  | [p], h => by
    have := h p List.mem_cons_self
    show p.length ≤ _
    rw [List.length_singleton, Nat.one_mul]
    omega
  | p :: q :: r, h => by
    have h1 := h p List.mem_cons_self
    have h2 := joinL_len (s := s) (ps := q :: r) fun v hv => h v (List.mem_cons_of_mem _ hv)
    show (p ++ (s ++ TL.joinL s (q :: r))).length ≤ _
    rw [List.length_append, List.length_append, List.length_cons, Nat.succ_mul]
    omega
theorem join_len {a : Str} {ys : List Str} {k : Nat} (h : ∀ y ∈ ys, y.length ≤ k) : (Txt.join a ys).length ≤ ys.length * (k + a.length) := by
  rw [TL.join_eq]
  have e := congrArg List.length (TL.tl_join a ys)
  have h2 := joinL_len (s := TL.tl a) (ps := ys.map TL.tl) (k := k) fun p hp => by
    obtain ⟨w, hw, rfl⟩ := List.mem_map.mp hp
    have e1 : (TL.tl w).length = w.length := Array.length_toList
    rw [e1]
    exact h w hw
  have e2 : (TL.tl (Str.join a ys)).length = (Str.join a ys).length := Array.length_toList
  have e3 : (TL.tl a).length = a.length := Array.length_toList
  rw [← e, e2, List.length_map, e3] at h2
  exact h2
/-- a pact that is told in a line -/
structure LnH (h : Hl) : Prop where
  wf : WfH h
  tl : h.takes.length ≤ 3
  hl : h.throws.length ≤ 4
theorem GoodH.ln {ps : List Pr} {hs : List Hl} (G : Good ps) (GH : GoodH ps hs) : ∀ h ∈ hs, LnH h := fun h hh => ⟨GH.wf G h hh, (GH.ok h hh).tl, (GH.ok h hh).hl⟩
theorem LnH.short {h : Hl} (L : LnH h) : ∀ w ∈ hwords h, w.length ≤ 8 := by
  have cs : ∀ w ∈ (["helper", "gives", "throws", "lent", "given", Str.ofString (toString (0 : Int)), Str.ofString (toString (1 : Int))] : List Str), w.length ≤ 8 := by decide +kernel
  intro w hw
  unfold hwords htail at hw
  rcases List.mem_append.mp hw with z | z
  · rcases List.mem_append.mp z with y | y
    · rcases List.mem_cons.mp y with rfl | y
      · exact cs _ (by simp)
      · rcases List.mem_cons.mp y with rfl | y
        · exact L.wf.nm.hi
        · rw [List.mem_singleton.mp y]
          rcases L.wf.sd with e | e
          · rw [e]; exact cs _ (by simp)
          · rw [e]; exact cs _ (by simp)
    · have := L.wf.tk w y
      unfold hows at this
      rcases List.mem_cons.mp this with rfl | q
      · exact cs _ (by simp)
      · rw [List.mem_singleton.mp q]
        exact cs _ (by simp)
  · rcases List.mem_append.mp z with y | y
    · split at y
      · rw [List.mem_singleton.mp y]
        exact cs _ (by simp)
      · cases y
    · split at y
      · rcases List.mem_append.mp y with q | q
        · rw [List.mem_singleton.mp q]
          exact cs _ (by simp)
        · exact (L.wf.th w q).hi
      · cases y
theorem LnH.many {h : Hl} (L : LnH h) : (hwords h).length ≤ 12 := by
  unfold hwords htail
  have h1 := L.tl
  have h2 := L.hl
  rw [List.length_append, List.length_append, List.length_append]
  have e1 : (["helper", h.name, Str.ofString (toString h.side)] : List Str).length = 3 := rfl
  have e2 : (if h.gives = true then (["gives"] : List Str) else []).length ≤ 1 := by split <;> decide
  have e3 : (if 0 < h.throws.length then (["throws"] : List Str) ++ h.throws else []).length ≤ 5 := by
    split
    · rw [List.length_append]
      show 1 + _ ≤ _
      omega
    · exact Nat.zero_le _
  omega
theorem LnH.len {h : Hl} (L : LnH h) : (hline h).length ≤ 200 := by
  have h1 := join_len (a := " ") L.short
  have h2 := L.many
  have e : (" " : Str).length = 1 := by decide +kernel
  rw [e] at h1
  show (Txt.join " " (hwords h)).length ≤ 200
  omega
theorem LnH.sum {h : Hl} (L : LnH h) : ((hwords h).map (·.length)).sum + (hwords h).length * (" " : Str).length ≤ 16777216 := by
  have h1 := sum_le L.short
  have h2 := L.many
  have e : (" " : Str).length = 1 := by decide +kernel
  rw [e]
  omega
def spHelperLine (K : PySem.W.Frag) : Sp := fun vs H Q _ => ∃ (t : Addr) (h : Hl), vs = [.ref t] ∧ HlAt K H (t, h) ∧ LnH h ∧ ∀ H', Same H H' → Q (.str (hline h)) H'
theorem ok_helper_line (T : Txt K mg a) : FnOk P w K mg base CX0 1 a.f_helper_line a.d_helper_line ["pact"] (spHelperLine K) := by
  have cl_Pacts := T.cl_Pacts
  have na_Pacts_kept_pairs := T.na_Pacts_kept_pairs
  have na_Pacts_kept_pacts := T.na_Pacts_kept_pacts
  refine T.F_helper_line.ok sc_helper_line (fun vs H Q E h => ?_) (fun cdv A outer s H vs Q E hr h => ?_)
  · obtain ⟨t, h, rfl, _⟩ := h
    rfl
  · obtain ⟨t, h, rfl, HT, LN, q⟩ := h
    obtain ⟨tk, th, ht, htk, hth⟩ := HT
    have ht : H t = some (.tup [.str h.name, .int h.side, .ref tk, .bl h.gives, .ref th]) := ht
    have htk : SqT K H tk (h.takes.map V.str) := htk
    have hth : SqT K H th (h.throws.map V.str) := hth
    have hb : h.side.natAbs.log2 < 1920 := by rcases LN.wf.sd with e | e <;> rw [e] <;> decide
    have h1 := LN.tl
    have h2 := LN.hl
    refine ⟨_, (pss_cons (ps_asg (pv 0) (pg_tup rfl (pgs_cons (pg_name (i := 1) sc_helper_line.nd rfl (Or.inl rfl)) (pgs_cons (pg_name (i := 2) sc_helper_line.nd rfl (Or.inl rfl)) (pgs_cons (pg_name (i := 3) sc_helper_line.nd rfl (Or.inl rfl)) (pgs_cons (pg_name (i := 4) sc_helper_line.nd rfl (Or.inl rfl)) (pgs_cons (pg_name (i := 5) sc_helper_line.nd rfl (Or.inl rfl)) pgs_nil)))))))
      (pss_cons (ps_set (i := 6) sc_helper_line.nd rfl (Or.inl rfl) (pe_op op_cat (pe_lst (pa_cons pe_str (pa_cons (pv 1) (pa_cons (pe_callTy call_str_int (by rfl) T.z_str (by decide +kernel) (pa_cons (pv 2) pa_nil)) pa_nil)))) (pe_callTy call_list_of (by rfl) T.z_list (by decide +kernel) (pa_cons (pv 3) pa_nil))))
      (pss_mid (ps_if (pt_val (pv 4)) (pss_one (ps_expr (pe_bm PySem.F.plainAttrs_list PySem.F.slot_list_append PySem.F.type_list_append mt_append (pv 6) (pa_cons pe_str pa_nil)))) pss_nil)
      (pss_mid (ps_if (pt_cmpR op_gt (pe_callB call_lenK (by rfl) T.z_len PySem.boot_len (pa_cons (pv 5) pa_nil)) pe_int (nomark _)) (pss_one (ps_set (i := 6) sc_helper_line.nd rfl (Or.inl rfl) (pe_op op_cat (pe_op op_cat (pv 6) (pe_lst (pa_cons pe_str pa_nil))) (pe_callTy call_list_of (by rfl) T.z_list (by decide +kernel) (pa_cons (pv 5) pa_nil))))) pss_nil)
      (pss_one (ps_ret (pe_join pe_str (pv 6)))))))), ?_⟩
    walk_at "go"
    intro p1 hp1
    obtain ⟨H1, e1⟩ : ∃ H1, H1 = upd H p1 (.lst [.str "helper", .str h.name, .str (Str.ofString (toString h.side))]) := ⟨_, rfl⟩
    have s1 : Same H H1 := by rw [e1]; exact Same.upd_new hp1
    have hp11 : H1 p1 = some (.lst [.str "helper", .str h.name, .str (Str.ofString (toString h.side))]) := by rw [e1, upd_same]
    rw [← e1]
    have htk1 := (TK.same s1).sq htk
    walk_at "go"
    intro p2 hp2
    obtain ⟨H2, e2⟩ : ∃ H2, H2 = upd H1 p2 (.lst (h.takes.map V.str)) := ⟨_, rfl⟩
    have s2 : Same H1 H2 := by rw [e2]; exact Same.upd_new hp2
    have hp22 : H2 p2 = some (.lst (h.takes.map V.str)) := by rw [e2, upd_same]
    rw [← e2]
    have hp12 := s2 _ _ hp11
    have hz2 : [V.str "helper", .str h.name, .str (Str.ofString (toString h.side))].length + (h.takes.map V.str).length ≤ sizeLine := small_le (by rw [List.length_map]; show 3 + _ ≤ _; omega)
    walk_at "go"
    intro W hW
    obtain ⟨H3, e3⟩ : ∃ H3, H3 = upd H2 W (.lst ([V.str "helper", .str h.name, .str (Str.ofString (toString h.side))] ++ h.takes.map V.str)) := ⟨_, rfl⟩
    have s3 : Same H2 H3 := by rw [e3]; exact Same.upd_new hW
    have s03 : Same H H3 := (s1.trans s2).trans s3
    have hW3 : H3 W = some (.lst (((["helper", h.name, Str.ofString (toString h.side)] : List Str) ++ h.takes).map V.str)) := by rw [e3, upd_same, List.map_append] <;> rfl
    rw [← e3]
    have hW0 : H W = none := same_none' s1 (same_none' s2 hW)
    refine mid_of (fun σ H4 => σ = [some (.ref t), some (.str h.name), some (.int h.side), some (.ref tk), some (.bl h.gives), some (.ref th), some (.ref W)] ∧ H4 W = some (.lst (((["helper", h.name, Str.ofString (toString h.side)] : List Str) ++ h.takes ++ (if h.gives = true then (["gives"] : List Str) else [])).map V.str)) ∧ Same H H4) ?_ ?_
    · cases hg : h.gives with
      | true =>
        walk_at "go"
        refine ⟨small_lt (by rw [List.length_map, List.length_append]; show 3 + _ ≤ _; omega), wait ⟨rfl, ?_, fun x o e => upd_get (ne_of_none e hW0) (s03 _ _ e)⟩⟩
        rw [upd_same, if_pos rfl, List.map_append, List.map_append] <;> rfl
      | false =>
        walk_at "go"
        refine wait ⟨rfl, ?_, s03⟩
        rw [hW3, if_neg (by decide), List.append_nil]
    · rintro σ H4 ⟨rfl, hW4, s4⟩
      have hth4 := (TK.same s4).sq hth
      have lth : (h.throws.map V.str).length = h.throws.length := List.length_map _
      refine mid_of (fun σ H5 => ∃ W', σ = [some (.ref t), some (.str h.name), some (.int h.side), some (.ref tk), some (.bl h.gives), some (.ref th), some (.ref W')] ∧ H5 W' = some (.lst ((hwords h).map V.str)) ∧ Same H H5) ?_ ?_
      · walk_at "go"
        refine ifD (fun b => ?_) (fun b => ?_)
        · have b1 : 0 < h.throws.length := by omega
          walk_at "go"
          intro p5 hp5
          obtain ⟨pre, epre⟩ : ∃ pre : List Str, pre = (["helper", h.name, Str.ofString (toString h.side)] : List Str) ++ h.takes ++ (if h.gives = true then (["gives"] : List Str) else []) := ⟨_, rfl⟩
          rw [← epre] at hW4
          have lpre : pre.length ≤ 10 := by
            rw [epre, List.length_append, List.length_append]
            have e2 : (if h.gives = true then (["gives"] : List Str) else []).length ≤ 1 := by split <;> decide
            show 3 + _ + _ ≤ _
            omega
          obtain ⟨H5, e5⟩ : ∃ H5, H5 = upd H4 p5 (.lst [.str "throws"]) := ⟨_, rfl⟩
          have s5 : Same H4 H5 := by rw [e5]; exact Same.upd_new hp5
          have hp55 : H5 p5 = some (.lst [.str "throws"]) := by rw [e5, upd_same]
          rw [← e5]
          have hW5 := s5 _ _ hW4
          have hz5 : (pre.map V.str).length + [V.str "throws"].length ≤ sizeLine := small_le (by rw [List.length_map]; show _ + 1 ≤ _; omega)
          walk_at "go"
          intro p6 hp6
          obtain ⟨H6, e6⟩ : ∃ H6, H6 = upd H5 p6 (.lst (pre.map V.str ++ [V.str "throws"])) := ⟨_, rfl⟩
          have s6 : Same H5 H6 := by rw [e6]; exact Same.upd_new hp6
          have hp66 : H6 p6 = some (.lst (pre.map V.str ++ [V.str "throws"])) := by rw [e6, upd_same]
          rw [← e6]
          have hth6 := (TK.same (s5.trans s6)).sq hth4
          walk_at "go"
          intro p7 hp7
          obtain ⟨H7, e7⟩ : ∃ H7, H7 = upd H6 p7 (.lst (h.throws.map V.str)) := ⟨_, rfl⟩
          have s7 : Same H6 H7 := by rw [e7]; exact Same.upd_new hp7
          have hp77 : H7 p7 = some (.lst (h.throws.map V.str)) := by rw [e7, upd_same]
          rw [← e7]
          have hp67 := s7 _ _ hp66
          have hz7 : (pre.map V.str ++ [V.str "throws"]).length + (h.throws.map V.str).length ≤ sizeLine := small_le (by rw [List.length_append, List.length_map, List.length_map]; show _ + 1 + _ ≤ _; omega)
          walk_at "go"
          intro p8 hp8
          refine wait ⟨p8, rfl, ?_, (s4.trans (s5.trans (s6.trans s7))).trans (Same.upd_new hp8)⟩
          rw [upd_same]
          unfold hwords htail
          rw [if_pos b1, ← List.append_assoc, ← epre, List.map_append, List.map_append, List.append_assoc] <;> rfl
        · have b1 : ¬ 0 < h.throws.length := by omega
          refine wait ⟨W, rfl, ?_, s4⟩
          rw [hW4]
          unfold hwords htail
          rw [if_neg b1, List.append_nil]
      · rintro σ H5 ⟨W', rfl, hW5, s5⟩
        have hsum := LN.sum
        walk_at "go"
        exact q _ s5
/-- a text of no great length -/
def spPairLine : Sp := fun vs H Q _ => ∃ (t : Addr) (p : Pr), vs = [.ref t] ∧ PrAt H (t, p) ∧ IsName p.near ∧ IsName p.far ∧ ∀ y : Str, y.length ≤ 100 → Q (.str y) H
theorem ok_pair_line (T : Txt K mg a) : FnOk P w K mg base CX0 1 a.f_pair_line a.d_pair_line ["pair"] spPairLine := by
  refine T.F_pair_line.ok sc_pair_line (fun vs H Q E h => ?_) (fun cdv A outer s H vs Q E hr h => ?_)
  · obtain ⟨t, p, rfl, _⟩ := h
    rfl
  · obtain ⟨t, p, rfl, HP, n1, n2, q⟩ := h
    have ht : H t = some (.tup [.str p.near, .str p.far, .bl p.laden]) := HP
    have l1 := n1.hi
    have l2 := n2.hi
    have e0 : Str.empty.length = 0 := rfl
    have e1 : ("word " : Str).length = 5 := by decide +kernel
    have e2 : (" " : Str).length = 1 := by decide +kernel
    have e3 : (" laden" : Str).length = 6 := by decide +kernel
    have e4 : ("" : Str).length = 0 := by decide +kernel
    refine ⟨_, (pss_cons (ps_asg (pv 0) (pg_tup rfl (pgs_cons (pg_name (i := 1) sc_pair_line.nd rfl (Or.inl rfl)) (pgs_cons (pg_name (i := 2) sc_pair_line.nd rfl (Or.inl rfl)) (pgs_cons (pg_name (i := 3) sc_pair_line.nd rfl (Or.inl rfl)) pgs_nil)))))
      (pss_one (ps_ret (pe_op op_add_str (pe_joined (.cons pe_str (.cons (pe_fmt (pv 1)) (.cons pe_str (.cons (pe_fmt (pv 2)) .nil))))) (pe_ifExp (pt_val (pv 3)) pe_str pe_str))))), ?_⟩
    walk_at "go"
    refine .inl ⟨_, rfl, small_le (by omega), _, rfl, small_le (by simp only [Str.length_append, e0, e1]; omega), ?_⟩
    refine ⟨_, rfl, small_le (by simp only [Str.length_append, e0, e1, e2]; omega), ?_⟩
    walk_at "go"
    refine .inl ⟨_, rfl, small_le (by omega), _, rfl, small_le (by simp only [Str.length_append, e0, e1, e2]; omega), ?_⟩
    obtain ⟨A0, eA⟩ : ∃ A0 : Str, A0 = Str.empty ++ ("word " : Str) ++ p.near ++ (" " : Str) ++ p.far := ⟨_, rfl⟩
    have lA : A0.length ≤ 30 := by rw [eA]; simp only [Str.length_append, e0, e1, e2]; omega
    rw [← eA]
    have lB : A0.length + (" laden" : Str).length ≤ sizeLine := small_le (by omega)
    have lC : A0.length + ("" : Str).length ≤ sizeLine := small_le (by omega)
    have lD : (A0 ++ (" laden" : Str)).length ≤ 100 := by simp only [Str.length_append, e3]; omega
    have lE : (A0 ++ ("" : Str)).length ≤ 100 := by simp only [Str.length_append, e4]; omega
    cases hl : p.laden with
    | true =>
      refine ⟨_, rfl, _, rfl, ifT rfl ?_⟩
      walk_at "go"
      exact q _ lD
    | false =>
      refine ⟨_, rfl, _, rfl, ifF rfl ?_⟩
      walk_at "go"
      exact q _ lE
def spLines (K : PySem.W.Frag) (C : Addr) : Sp := fun vs H Q _ => ∃ (x kp kd : Addr) (L : List (Addr × Pr)) (M : List (Addr × Hl)), vs = [.ref x] ∧ PactsH K C H x kp kd L M ∧ M.length ≤ 10000 ∧ (∀ e ∈ M, LnH e.2) ∧
  ∀ D H', H D = none → H' D = some (.lst ((M.map fun e => hline e.2).map V.str)) → Same H H' → Q (.ref D) H'
theorem ok_Pacts_lines_told (T : Txt K mg a) : FnOk P w K mg base CX0 2 a.f_Pacts_lines_told a.d_Pacts_lines_told ["self"] (spLines K a.c_Pacts) := by
  have G_helper_line := ok_helper_line (P := P) (w := w) (base := base) T
  have cl_Pacts := T.cl_Pacts
  have na_Pacts_kept_pairs := T.na_Pacts_kept_pairs
  have na_Pacts_kept_pacts := T.na_Pacts_kept_pacts
  refine T.F_Pacts_lines_told.ok sc_Pacts_lines_told (fun vs H Q E h => ?_) (fun cdv A outer s H vs Q E hr h => ?_)
  · obtain ⟨x, kp, kd, L, M, rfl, _⟩ := h
    rfl
  · obtain ⟨x, kp, kd, L, M, rfl, PA, hl, LN, q⟩ := h
    obtain ⟨dx, ho⟩ := PA.pa.ob
    have hd := PA.pa.pc
    refine ⟨_, (pss_one (ps_ret (pe_lock (pe_lc (own := [("pact", 1)]) (g := gName 1) (tt := tYes) rfl sc_Pacts_lines_told.nd (pi_values (pe_fld (pv 0) rfl)) (blkOk_by (own := [("pact", 1)]) (N := n_Pacts_lines_told) (sc := defScope s_Pacts_lines_told) (by decide +kernel)) (fun _ _ _ _ _ => (pg_name (i := 1) sc_Pacts_lines_told.nd rfl (Or.inl rfl))) (fun _ _ _ _ _ => pts_nil) (fun _ _ _ _ _ => (pe_call G_helper_line (hr.mono (by decide)) rfl T.m_helper_line T.F_helper_line.kp T.b_helper_line .nil pass0 (pa_cons (pv 1) pa_nil))))))), ?_⟩
    refine ⟨kd, _, hd, trivial, fun od => ?_⟩
    have nxd : x ≠ kd := ne_of ho hd (by intro z; cases z)
    have ho1 : upd H kd (.frz od (.dK (hk M))) x = _ := upd_get nxd ho
    have hd1 : upd H kd (.frz od (.dK (hk M))) kd = some (.frz od (.dK (hk M))) := upd_same
    walk_at "go"
    intro D hD
    have nD : D ≠ kd := fun z => by rw [z, upd_same] at hD; cases hD
    have hD0 : H D = none := by rw [upd_ne nD] at hD; exact hD
    have hlm := hk_len M
    refine lcW (walk_values (d := kd) (o := od) (kvs := hk M)) (fun i H' => H' D = some (.lst (((M.take i).map fun e => hline e.2).map V.str)) ∧ Same (upd H kd (.frz od (.dK (hk M)))) H') ?_ ?_ ?_ ?_
    · exact ⟨upd_same, Same.upd_new hD⟩
    · exact fun i H' _ h => h.2 _ _ upd_same
    · rintro i v H0 H1 hi ⟨g1, g2⟩ ⟨rfl, k, hke⟩
      have hi2 : i < M.length := by omega
      obtain ⟨e, he⟩ : ∃ e, M[i]? = some e := ⟨_, List.getElem?_eq_getElem hi2⟩
      have hke : (M.map fun e => ((Sum.inr e.2.name : Key), V.ref e.1))[i]? = some (k, v) := hke
      rw [List.getElem?_map, he] at hke
      cases hke
      have hat : HlAt K H1 (e.1, e.2) := ((PA.at_ e (List.mem_of_getElem? he)).tk (TK.dK hd)).tk (TK.same g2)
      have ln := LN e (List.mem_of_getElem? he)
      refine ⟨rfl, ?_⟩
      walk_at "go"
      intro H2 s2
      refine ⟨_, s2 _ _ g1, small_lt (by rw [List.length_map, List.length_map, List.length_take]; omega), wait ⟨?_, fun x o e => upd_get (ne_of_none e hD) (s2 _ _ (g2 x o e))⟩⟩
      rw [upd_same, List.take_add_one, he, List.map_append, List.map_append] <;> rfl
    · rintro H1 ⟨g1, g2⟩
      rw [hlm, List.take_length] at g1
      refine ⟨g2 _ _ upd_same, ?_⟩
      refine q D _ hD0 (upd_get nD g1) fun y o e => ?_
      by_cases z : y = kd
      · rw [z, hd] at e
        rw [z, upd_same]
        exact e
      · exact upd_get z (g2 _ _ (upd_get z e))
def spStrP (K : PySem.W.Frag) (C : Addr) : Sp := fun vs H Q _ => ∃ (x kp kd : Addr) (L : List (Addr × Pr)) (M : List (Addr × Hl)), vs = [.ref x] ∧ PactsH K C H x kp kd L M ∧ Good (L.map (·.2)) ∧ GoodH (L.map (·.2)) (M.map (·.2)) ∧
  ∀ (y : Str) H', Same H H' → Q (.str y) H'
theorem ok_Pacts___str__ (T : Txt K mg a) : FnOk P w K mg base CX0 3 a.f_Pacts___str__ a.d_Pacts___str__ ["self"] (spStrP K a.c_Pacts) := by
  have G_Pacts_lines_told := ok_Pacts_lines_told (P := P) (w := w) (base := base) T
  have G_pair_line := ok_pair_line (P := P) (w := w) (base := base) T
  have cl_Pacts := T.cl_Pacts
  have na_Pacts_kept_pairs := T.na_Pacts_kept_pairs
  have na_Pacts_kept_pacts := T.na_Pacts_kept_pacts
  refine T.F_Pacts___str__.ok sc_Pacts___str__ (fun vs H Q E h => ?_) (fun cdv A outer s H vs Q E hr h => ?_)
  · obtain ⟨x, kp, kd, L, M, rfl, _⟩ := h
    rfl
  · obtain ⟨x, kp, kd, L, M, rfl, PA, G, GH, q⟩ := h
    obtain ⟨dx, ho⟩ := PA.pa.ob
    have hls := PA.pa.pr.ls
    have gl := G.len
    have ghl := GH.len
    rw [List.length_map] at gl ghl
    refine ⟨_, (pss_one (ps_ret (pe_join pe_str (pe_op op_cat (pe_lc (own := [("pair", 1)]) (g := gName 1) (tt := tYes) rfl sc_Pacts___str__.nd (pi_list (by exact (pe_fld (pv 0) rfl))) (blkOk_by (own := [("pair", 1)]) (N := n_Pacts___str__) (sc := defScope s_Pacts___str__) (by decide +kernel)) (fun _ _ _ _ _ => (pg_name (i := 1) sc_Pacts___str__.nd rfl (Or.inl rfl))) (fun _ _ _ _ _ => pts_nil) (fun _ _ _ _ _ => (pe_call G_pair_line (hr.mono (by decide)) rfl T.m_pair_line T.F_pair_line.kp T.b_pair_line .nil pass0 (pa_cons (pv 1) pa_nil)))) (pe_meth0 (pv 0) T.cl_Pacts T.mt_Pacts_lines_told G_Pacts_lines_told (hr.mono (by decide)) T.b_Pacts_lines_told .nil pass0))))), ?_⟩
    walk_at "go"
    intro D hD
    refine lcL (K := K) (a := kp) (xs := L.map fun e => V.ref e.1) (fun i H' => ∃ ys : List Str, ys.length = i ∧ (∀ y ∈ ys, y.length ≤ 1000) ∧ H' D = some (.lst (ys.map V.str)) ∧ Same H H') ?_ ?_ ?_ ?_
    · exact ⟨[], rfl, (fun _ h => nomatch h), upd_same, Same.upd_new hD⟩
    · rintro i H' _ ⟨ys, _, _, _, g2⟩
      exact SqL.of (g2 _ _ hls)
    · rintro i v H' hi ⟨ys, yl, yk, g1, g2⟩
      rw [List.getElem?_map] at hi
      obtain ⟨e, he, rfl⟩ := Option.map_eq_some_iff.mp hi
      have hem := List.mem_of_getElem? he
      have hlt := (List.getElem?_eq_some_iff.mp he).1
      have hp : PrAt H' (e.1, e.2) := g2 _ _ (PA.pa.pr.at_ e hem)
      have hgm : e.2 ∈ L.map (·.2) := List.mem_map.mpr ⟨e, hem, rfl⟩
      have k1 := G.kn _ hgm
      have k2 := G.kf _ hgm
      refine ⟨rfl, ?_⟩
      walk_at "go"
      intro y ly
      refine ⟨_, g1, small_lt (by rw [List.length_map]; omega), wait ⟨ys ++ [y], by rw [List.length_append, yl] <;> rfl, fun z hz => ?_, ?_, fun x o e => upd_get (ne_of_none e hD) (g2 x o e)⟩⟩
      · rcases List.mem_append.mp hz with a1 | a1
        · exact yk z a1
        · rw [List.mem_singleton.mp a1]; omega
      · rw [upd_same, List.map_append] <;> rfl
    · rintro H1 ⟨ys, yl, yk, g1, g2⟩
      rw [List.length_map] at yl
      have PA1 := PA.same g2
      obtain ⟨dx1, ho1⟩ := PA1.pa.ob
      have ln : ∀ e ∈ M, LnH e.2 := fun e he => GH.ln G e.2 (List.mem_map.mpr ⟨e, he, rfl⟩)
      have lM : M.length ≤ 10000 := by omega
      walk_at "go"
      intro D2 H2 hD2 h2 s2
      have g12 := s2 _ _ g1
      have hz2 : (ys.map V.str).length + ((M.map fun e => hline e.2).map V.str).length ≤ sizeLine := small_le (by rw [List.length_map, List.length_map, List.length_map]; omega)
      walk_at "go"
      intro D3 hD3
      have h3 : upd H2 D3 (.lst (ys.map V.str ++ (M.map fun e => hline e.2).map V.str)) D3 = some (.lst ((ys ++ M.map fun e => hline e.2).map V.str)) := by rw [upd_same, List.map_append]
      have hsum : ((ys ++ M.map fun e => hline e.2).map (·.length)).sum + (ys ++ M.map fun e => hline e.2).length * ("\n" : Str).length ≤ 16777216 := by
        have h1 := sum_le (k := 1000) (ws := ys ++ M.map fun e => hline e.2) fun w hw => by
          rcases List.mem_append.mp hw with z | z
          · exact yk w z
          · obtain ⟨e, he, rfl⟩ := List.mem_map.mp z
            exact Nat.le_trans (ln e he).len (by decide)
        have e1 : ("\n" : Str).length = 1 := by decide +kernel
        rw [e1]
        rw [List.length_append, List.length_map] at h1 ⊢
        omega
      walk_at "go"
      exact q _ _ ((g2.trans s2).trans (Same.upd_new hD3))
/-! ### own == -/
theorem eqv_prs : ∀ {xs ys : List Pr}, PyData.eqvAll (xs.map prD) (ys.map prD) = true → xs = ys
  | [], [], _ => rfl
  | [], _ :: _, h => by cases h
  | _ :: _, [], h => by cases h
  | x :: xs, y :: ys, h => by
    have h : ((x.near == y.near && (x.far == y.far && (x.laden == y.laden && true))) && PyData.eqvAll (xs.map prD) (ys.map prD)) = true := h
    simp only [Bool.and_eq_true] at h
    obtain ⟨⟨h1, h2, h3, _⟩, h4⟩ := h
    obtain ⟨n1, f1, l1⟩ := x
    obtain ⟨n2, f2, l2⟩ := y
    have a1 : n1 = n2 := eq_of_beq h1
    have a2 : f1 = f2 := eq_of_beq h2
    have a3 : l1 = l2 := eq_of_beq h3
    rw [a1, a2, a3, eqv_prs h4]
theorem eqv_strs : ∀ {xs ys : List Str}, PyData.eqvAll (xs.map PyData.str) (ys.map PyData.str) = true → xs = ys
  | [], [], _ => rfl
  | [], _ :: _, h => by cases h
  | _ :: _, [], h => by cases h
  | x :: xs, y :: ys, h => by
    have h : (x == y && PyData.eqvAll (xs.map PyData.str) (ys.map PyData.str)) = true := h
    rw [Bool.and_eq_true] at h
    rw [eq_of_beq h.1, eqv_strs h.2]
theorem shaped_strs {ws : List Str} (h : ∀ w ∈ ws, PyData.strOk w = true) : SeqAt.shaped (.list (ws.map PyData.str)) = true := by
  unfold SeqAt.shaped
  rw [Bool.and_eq_true]
  refine ⟨?_, decide_eq_true ?_⟩
  · have f : ∀ {ws : List Str}, (∀ w ∈ ws, PyData.strOk w = true) → PyData.canLayAll0 (ws.map PyData.str) = true := by
      intro ws
      induction ws with
      | nil => intro _; rfl
      | cons w r ih =>
        intro h
        show (PyData.strOk w && PyData.canLayAll0 (r.map PyData.str)) = true
        rw [h w List.mem_cons_self, ih fun q hq => h q (List.mem_cons_of_mem _ hq)] <;> rfl
    exact f h
  · show PyData.depthAll (ws.map PyData.str) + 1 ≤ 64
    rw [depth_strs] <;> decide
end
end Pf
set_option Elab.async false
set_option linter.all false
set_option maxRecDepth 100000
set_option maxHeartbeats 4000000
namespace Pf
open PySem L2
local macro_rules | `(tactic| walk_at "nz") => `(tactic| (show (_ : Int) ≠ 0; omega))
local macro_rules | `(tactic| walk_at "ne") => `(tactic| first | assumption | (apply Ne.symm; assumption))
local macro_rules | `(tactic| walk_at "hp") => `(tactic| first | assumption | exact upd_same | (refine upd_get ?_ ?_; walk_at "ne"; walk_at "hp"))
local macro_rules | `(tactic| walk_at "sd") => `(tactic| first
  | (with_reducible show (_ : Int) < _; omega)
  | (with_reducible show (_ : Int) ≤ _; omega)
  | (with_reducible show (_ : Nat) < _; omega)
  | (with_reducible show (_ : Nat) ≤ _; omega)
  | rfl
  | assumption
  | exact kV_int _
  | exact kV_str _
  | (show (_ : Int) ≠ 0; omega)
  | exact SqL.of (by walk_at "hp")
  | exact ⟨_, SqL.of (by walk_at "hp")⟩
  | exact ⟨_, SqT.of (by walk_at "hp")⟩
  | exact ⟨_, (by assumption)⟩
  | exact SqT.of (by walk_at "hp")
  | exact Rd.of (by walk_at "hp")
  | exact Or.inl (SqL.of (by walk_at "hp"))
  | exact Or.inr (SqT.of (by walk_at "hp"))
  | exact Or.inr (by assumption)
  | (walk_at "hp")
  | (exact Or.inl ⟨rfl, _, SqL.of (by walk_at "hp")⟩)
  | (exact Or.inl ⟨by omega, by omega⟩)
  | (exact Or.inr ⟨by omega, by omega⟩)
  | (refine ⟨?_, ?_, ?_⟩ <;> omega)
  | omega
  | (exact small_le (by first | omega | (simp only [List.length_cons, List.length_nil]; omega)))
  | (exact small_lt (by first | omega | (simp only [List.length_cons, List.length_nil]; omega)))
  | exact Nat.le_of_ble_eq_true rfl
  | exact ⟨_, rfl⟩
  | decide)
local macro_rules | `(tactic| walk_at "st") => `(tactic| first
  | with_reducible refine sq_seq ?_
  | apply Exists.intro
  | (refine And.intro ?_ ?_; (walk_at "sd")))
local macro_rules | `(tactic| walk_at "go") => `(tactic| repeat (walk_at "st"))
section
variable {P : Program} {w : World} {K : PySem.W.Frag} {mg : Str → Option Value} {base : Heap} {a : Ad}
theorem joinL_mem {s : List Nat} {c : Nat} : ∀ {ps : List (List Nat)}, c ∈ TL.joinL s ps → c ∈ s ∨ ∃ p ∈ ps, c ∈ p
  | [], h => by cases h
  | [p], h => .inr ⟨p, List.mem_cons_self, h⟩
  | p :: q :: r, h => by
    have h : c ∈ p ++ (s ++ TL.joinL s (q :: r)) := h
    rcases List.mem_append.mp h with z | z
    · exact .inr ⟨p, List.mem_cons_self, z⟩
    · rcases List.mem_append.mp z with y | y
      · exact .inl y
      · rcases joinL_mem y with v | ⟨u, hu, hc⟩
        · exact .inl v
        · exact .inr ⟨u, List.mem_cons_of_mem _ hu, hc⟩
theorem join_ok {b : Str} {ys : List Str} (h0 : PyData.strOk b = true) (h : ∀ y ∈ ys, PyData.strOk y = true) : PyData.strOk (Txt.join b ys) = true := by
  have f : ∀ {v : Str}, PyData.strOk v = true → ∀ c ∈ TL.tl v, PyData.strOk ⟨#[c]⟩ = true := fun {v} hv c hc => by
    unfold PyData.strOk at hv ⊢
    rw [← Array.all_toList, List.all_eq_true] at hv
    rw [← Array.all_toList, List.all_eq_true]
    intro d hd
    have : d = c := List.mem_singleton.mp hd
    rw [this]
    exact hv c hc
  have g : ∀ {v : Str}, (∀ c ∈ TL.tl v, PyData.strOk ⟨#[c]⟩ = true) → PyData.strOk v = true := fun {v} hv => by
    unfold PyData.strOk
    rw [← Array.all_toList, List.all_eq_true]
    intro c hc
    have := hv c hc
    unfold PyData.strOk at this
    rw [← Array.all_toList, List.all_eq_true] at this
    exact this c List.mem_cons_self
  refine g fun c hc => ?_
  rw [TL.join_eq, TL.tl_join] at hc
  rcases joinL_mem hc with z | ⟨p, hp, z⟩
  · exact f h0 c z
  · obtain ⟨y, hy, rfl⟩ := List.mem_map.mp hp
    exact f (h y hy) c z
theorem WfH.ok {h : Hl} (W : WfH h) : PyData.strOk (hline h) = true := by
  have cs : ∀ w ∈ (["helper", "gives", "throws", "lent", "given", Str.ofString (toString (0 : Int)), Str.ofString (toString (1 : Int))] : List Str), PyData.strOk w = true := by decide +kernel
  refine join_ok (by decide +kernel) fun w hw => ?_
  unfold hwords htail at hw
  rcases List.mem_append.mp hw with z | z
  · rcases List.mem_append.mp z with y | y
    · rcases List.mem_cons.mp y with rfl | y
      · exact cs _ (by simp)
      · rcases List.mem_cons.mp y with rfl | y
        · exact W.nm.ok
        · rw [List.mem_singleton.mp y]
          rcases W.sd with e | e
          · rw [e]; exact cs _ (by simp)
          · rw [e]; exact cs _ (by simp)
    · have := W.tk w y
      unfold hows at this
      rcases List.mem_cons.mp this with rfl | q
      · exact cs _ (by simp)
      · rw [List.mem_singleton.mp q]
        exact cs _ (by simp)
  · rcases List.mem_append.mp z with y | y
    · split at y
      · rw [List.mem_singleton.mp y]
        exact cs _ (by simp)
      · cases y
    · split at y
      · rcases List.mem_append.mp y with q | q
        · rw [List.mem_singleton.mp q]
          exact cs _ (by simp)
        · exact (W.th w q).ok
      · cases y
/-- what an own == asks: another one of the class, or a thing that is none -/
def spEqP (K : PySem.W.Frag) (C : Addr) : Sp := fun vs H Q _ =>
  (∃ (x kp kd y kp' kd' : Addr) (L L' : List (Addr × Pr)) (M M' : List (Addr × Hl)), vs = [.ref x, .ref y] ∧ PactsH K C H x kp kd L M ∧ PactsH K C H y kp' kd' L' M' ∧ Good (L.map (·.2)) ∧ GoodH (L.map (·.2)) (M.map (·.2)) ∧ Good (L'.map (·.2)) ∧ GoodH (L'.map (·.2)) (M'.map (·.2)) ∧
    ∀ r H', Same H H' → (r = true ↔ L.map (·.2) = L'.map (·.2) ∧ M.map (·.2) = M'.map (·.2)) → Q (.bl r) H') ∨
  (∃ (x : Addr) (z : V), vs = [.ref x, z] ∧ Odd K H z ∧ Q (.bl false) H)
theorem ok_Pacts___eq__ (T : Txt K mg a) : FnOk P w K mg base CX0 3 a.f_Pacts___eq__ a.d_Pacts___eq__ ["self", "other"] (spEqP K a.c_Pacts) := by
  have G_Pacts_lines_told := ok_Pacts_lines_told (P := P) (w := w) (base := base) T
  have cl_Pacts := T.cl_Pacts
  have na_Pacts_kept_pairs := T.na_Pacts_kept_pairs
  have na_Pacts_kept_pacts := T.na_Pacts_kept_pacts
  refine T.F_Pacts___eq__.ok sc_Pacts___eq__ (fun vs H Q E h => ?_) (fun cdv A outer s H vs Q E hr h => ?_)
  · rcases h with ⟨x, kp, kd, y, kp', kd', L, L', M, M', rfl, _⟩ | ⟨x, z, rfl, _⟩ <;> rfl
  · have oc := T.oc_Pacts
    rcases h with ⟨x, kp, kd, y, kp', kd', L, L', M, M', rfl, PX, PY, G, GH, G', GH', q⟩ | ⟨x, z, rfl, hz, q⟩
    · obtain ⟨dx, hx⟩ := PX.pa.ob
      obtain ⟨dy, hy⟩ := PY.pa.ob
      have ty : TyX K H (.ref y) (.ref a.c_Pacts) := .base (.ins hy T.cl_Pacts oc.ha oc.hn oc.ht oc.hm)
      have ki : PySem.W.kitOne K (.ref a.c_Pacts) (.ref a.c_Pacts) = some true := by
        unfold PySem.W.kitOne
        rw [if_pos (by simp)]
      refine ⟨_, (pss_cons (ps_if (pt_not (pt_val (pe_callB call_isi (by rfl) T.z_isinstance (by decide +kernel) (pa_cons (pv 1) (pa_cons (pe_glob (v := .ref a.c_Pacts) rfl T.m_Pacts rfl) pa_nil))))) (pss_one (ps_ret pe_bl)) pss_nil)
      (pss_one (ps_ret (pe_and (pe_cmpR (op_eqD (hr.units)) (pe_fld (pv 0) rfl) (pe_fld (pv 1) rfl) (nomark _)) (pe_one (pe_cmpR (op_eqD (hr.units)) (pe_meth0 (pv 0) T.cl_Pacts T.mt_Pacts_lines_told G_Pacts_lines_told (hr.mono (by decide)) T.b_Pacts_lines_told .nil pass0) (pe_meth0 (pv 1) T.cl_Pacts T.mt_Pacts_lines_told G_Pacts_lines_told (hr.mono (by decide)) T.b_Pacts_lines_told .nil pass0) (nomark _))))))), ?_⟩
      have d1 := PX.pa.pr.dp (K := K)
      have d2 := PY.pa.pr.dp (K := K)
      have sh1 := shaped_prs fun p hp => G.xp.sw p hp
      have sh2 := shaped_prs fun p hp => G'.xp.sw p hp
      walk_at "go"
      refine ⟨.own _, ty, ki, ?_⟩
      walk_at "go"
      by_cases hp : L.map (·.2) = L'.map (·.2)
      · rw [hp, eqv_self sh2]
        refine ifT rfl ?_
        have lM : M.length ≤ 10000 := by
          have := GH.len
          rw [List.length_map] at this
          omega
        have lM' : M'.length ≤ 10000 := by
          have := GH'.len
          rw [List.length_map] at this
          omega
        have ln : ∀ e ∈ M, LnH e.2 := fun e he => GH.ln G e.2 (List.mem_map.mpr ⟨e, he, rfl⟩)
        have ln' : ∀ e ∈ M', LnH e.2 := fun e he => GH'.ln G' e.2 (List.mem_map.mpr ⟨e, he, rfl⟩)
        have PX0 := PX
        walk_at "go"
        intro D1 H1 hD1 h1 s1
        have PY1 := PY.same s1
        obtain ⟨dy1, hy1⟩ := PY1.pa.ob
        walk_at "go"
        intro D2 H2 hD2 h2 s2
        have dl1 : Dp K H2 (.ref D1) (.list ((M.map fun e => hline e.2).map PyData.str)) := .lst (SqL.of (s2 _ _ h1)) (dp_strs _)
        have dl2 : Dp K H2 (.ref D2) (.list ((M'.map fun e => hline e.2).map PyData.str)) := .lst (SqL.of h2) (dp_strs _)
        have sl1 : SeqAt.shaped (.list ((M.map fun e => hline e.2).map PyData.str)) = true := shaped_strs fun w hw => by
          obtain ⟨e, he, rfl⟩ := List.mem_map.mp hw
          exact (ln e he).wf.ok
        have sl2 : SeqAt.shaped (.list ((M'.map fun e => hline e.2).map PyData.str)) = true := shaped_strs fun w hw => by
          obtain ⟨e, he, rfl⟩ := List.mem_map.mp hw
          exact (ln' e he).wf.ok
        refine ⟨_, _, dl1, dl2, sl1, sl2, q _ _ (s1.trans s2) ⟨fun e => ⟨hp, ?_⟩, fun e => ?_⟩⟩
        · have e1 := eqv_strs e
          have f : ∀ Z : List (Addr × Hl), Z.map (fun e => hline e.2) = (Z.map (·.2)).map hline := fun Z => by rw [List.map_map] <;> rfl
          rw [f, f] at e1
          exact lines_inj (GH.wf G) (GH'.wf G') e1
        · have f : ∀ Z : List (Addr × Hl), Z.map (fun e => hline e.2) = (Z.map (·.2)).map hline := fun Z => by rw [List.map_map] <;> rfl
          have e1 : M.map (fun e => hline e.2) = M'.map fun e => hline e.2 := by rw [f, f, e.2]
          rw [e1]
          exact eqv_self sl2
      · have e1 : PyData.eqv (.list ((L.map (·.2)).map prD)) (.list ((L'.map (·.2)).map prD)) = false := by
          cases z : PyData.eqv (.list ((L.map (·.2)).map prD)) (.list ((L'.map (·.2)).map prD)) with
          | false => rfl
          | true => exact absurd (eqv_prs z) hp
        refine ifF e1 ?_
        exact q _ _ (fun _ _ e => e) ⟨(fun e => nomatch e), fun e => absurd e.1 hp⟩
    · have go : ∀ t, TyX K H z t → PySem.W.kitOne K t (.ref a.c_Pacts) = some false → ∃ t, PSs (cxOf CX0 P w K mg base n_Pacts___eq__ (Str.ofString "Pacts.__eq__") (defScope s_Pacts___eq__) a.f_Pacts___eq__ cdv A outer s H E).nox (defBody s_Pacts___eq__) t ∧ t { nx := fun _ H' => Q .non H', rt := Q } (start n_Pacts___eq__ [.ref x, z]) H := by
        intro t ty ki
        refine ⟨_, (pss_cons (ps_if (pt_not (pt_val (pe_callB call_isi (by rfl) T.z_isinstance (by decide +kernel) (pa_cons (pv 1) (pa_cons (pe_glob (v := .ref a.c_Pacts) rfl T.m_Pacts rfl) pa_nil))))) (pss_one (ps_ret pe_bl)) pss_nil)
      (pss_one (ps_ret (pe_and (pe_cmpR (op_eqD (hr.units)) (pe_fld (pv 0) rfl) (pe_fld (pv 1) rfl) (nomark _)) (pe_one (pe_cmpR (op_eqD (hr.units)) (pe_meth0 (pv 0) T.cl_Pacts T.mt_Pacts_lines_told G_Pacts_lines_told (hr.mono (by decide)) T.b_Pacts_lines_told .nil pass0) (pe_meth0 (pv 1) T.cl_Pacts T.mt_Pacts_lines_told G_Pacts_lines_told (hr.mono (by decide)) T.b_Pacts_lines_told .nil pass0) (nomark _))))))), ?_⟩
        walk_at "go"
        refine ⟨.own _, ty, ki, ?_⟩
        walk_at "go"
        exact q
      cases z with
      | str k => exact go _ (.base (.str k)) oc.k1
      | int k => exact go _ (.base (.int k)) oc.k2
      | non => exact go _ (.base .non) oc.k3
      | ref p =>
        obtain ⟨xs, hp⟩ := hz
        exact go _ (.base (.lst hp)) oc.k4
      | _ => exact hz.elim
end
end Pf
set_option Elab.async false
set_option linter.all false
set_option maxRecDepth 100000
set_option maxHeartbeats 4000000
namespace Pf
open PySem L2
local macro_rules | `(tactic| walk_at "nz") => `(tactic| (show (_ : Int) ≠ 0; omega))
local macro_rules | `(tactic| walk_at "ne") => `(tactic| first | assumption | (apply Ne.symm; assumption))
local macro_rules | `(tactic| walk_at "hp") => `(tactic| first | assumption | exact upd_same | (refine upd_get ?_ ?_; walk_at "ne"; walk_at "hp"))
local macro_rules | `(tactic| walk_at "sd") => `(tactic| first
  | (with_reducible show (_ : Int) < _; omega)
  | (with_reducible show (_ : Int) ≤ _; omega)
  | (with_reducible show (_ : Nat) < _; omega)
  | (with_reducible show (_ : Nat) ≤ _; omega)
  | rfl
  | assumption
  | exact kV_int _
  | exact kV_str _
  | (show (_ : Int) ≠ 0; omega)
  | exact SqL.of (by walk_at "hp")
  | exact ⟨_, SqL.of (by walk_at "hp")⟩
  | exact ⟨_, SqT.of (by walk_at "hp")⟩
  | exact ⟨_, (by assumption)⟩
  | exact SqT.of (by walk_at "hp")
  | exact Rd.of (by walk_at "hp")
  | exact Or.inl (SqL.of (by walk_at "hp"))
  | exact Or.inr (SqT.of (by walk_at "hp"))
  | exact Or.inr (by assumption)
  | (walk_at "hp")
  | (exact Or.inl ⟨rfl, _, SqL.of (by walk_at "hp")⟩)
  | (exact Or.inl ⟨by omega, by omega⟩)
  | (exact Or.inr ⟨by omega, by omega⟩)
  | (refine ⟨?_, ?_, ?_⟩ <;> omega)
  | omega
  | (exact small_le (by first | omega | (simp only [List.length_cons, List.length_nil]; omega)))
  | (exact small_lt (by first | omega | (simp only [List.length_cons, List.length_nil]; omega)))
  | exact Nat.le_of_ble_eq_true rfl
  | exact ⟨_, rfl⟩
  | decide)
local macro_rules | `(tactic| walk_at "st") => `(tactic| first
  | with_reducible refine sq_seq ?_
  | apply Exists.intro
  | (refine And.intro ?_ ?_; (walk_at "sd")))
local macro_rules | `(tactic| walk_at "go") => `(tactic| repeat (walk_at "st"))
section
variable {P : Program} {w : World} {K : PySem.W.Frag} {mg : Str → Option Value} {base : Heap} {a : Ad}
def cw (ps : List Pr) (sd s : Int) (w : Str) : List Str := (ps.filter fun p => decide (p.word sd = w)).map (·.word s)
theorem cw_len (ps : List Pr) (sd s : Int) : ∀ ws : List Str, (ws.flatMap (cw ps sd s)).length ≤ ws.length * ps.length
  | [] => Nat.zero_le _
  | w :: r => by
    have h1 := cw_len ps sd s r
    have h2 : (cw ps sd s w).length ≤ ps.length := by
      unfold cw
      rw [List.length_map]
      exact List.length_filter_le _ _
    rw [List.flatMap_cons, List.length_append, List.length_cons, Nat.succ_mul]
    omega
theorem crossed_cw (ps : List Pr) (h : Hl) (s : Int) : crossed ps h s = h.throws.flatMap (cw ps h.side s) := rfl
def spCrossed (K : PySem.W.Frag) : Sp := fun vs H Q _ => ∃ (D t : Addr) (L : List (Addr × Pr)) (h : Hl) (s : Int), vs = [.ref D, .ref t, .int s] ∧ PairsAt H D L ∧ HlAt K H (t, h) ∧ L.length ≤ 6 ∧ h.throws.length ≤ 4 ∧ (h.side = 0 ∨ h.side = 1) ∧ (s = 0 ∨ s = 1) ∧
  ∀ F H', H F = none → H' F = some (.lst ((crossed (L.map (·.2)) h s).map V.str)) → Same H H' → Q (.ref F) H'
theorem ok__law_crossed (T : Txt K mg a) : FnOk P w K mg base CX0 1 a.f__law_crossed a.d__law_crossed ["_law_pairs_here", "_law_helper", "_law_team"] (spCrossed K) := by
  have cl_Pacts := T.cl_Pacts
  have na_Pacts_kept_pairs := T.na_Pacts_kept_pairs
  have na_Pacts_kept_pacts := T.na_Pacts_kept_pacts
  refine T.F__law_crossed.ok sc__law_crossed (fun vs H Q E h => ?_) (fun cdv A outer s H vs Q E hr h => ?_)
  · obtain ⟨D, t, L, h, s, rfl, _⟩ := h
    rfl
  · obtain ⟨D, t, L, h, s, rfl, PP, HT, hl, h4, hsd, hs, q⟩ := h
    obtain ⟨tk, th, ht, htk, hth⟩ := HT
    have ht : H t = some (.tup [.str h.name, .int h.side, .ref tk, .bl h.gives, .ref th]) := ht
    have hth : SqT K H th (h.throws.map V.str) := hth
    have hls := PP.ls
    refine ⟨_, (pss_cons (ps_set (i := 3) sc__law_crossed.nd rfl (Or.inl rfl) (pe_lst pa_nil))
      (pss_cons (ps_stop (ps_for PassesOwn.never rfl (pi_wait (pi_tup (by exact (pe_ix ix_tup (pv 1) pe_int (fun _ _ => rfl))))) (pg_name (i := 4) sc__law_crossed.nd rfl (Or.inl rfl)) (pss_one (ps_stop (ps_for PassesOwn.never rfl (pi_wait (pi_list (pv 0))) (pg_name (i := 5) sc__law_crossed.nd rfl (Or.inl rfl)) (pss_one (ps_if (pt_cmpR op_eq (pe_ix ix_tup (pv 5) (pe_ix ix_tup (pv 1) pe_int (fun _ _ => rfl)) (fun _ _ => rfl)) (pv 4) (nomark _)) (pss_one (ps_expr (pe_bm PySem.F.plainAttrs_list PySem.F.slot_list_append PySem.F.type_list_append mt_append (pv 3) (pa_cons (pe_ix ix_tup (pv 5) (pv 2) (fun _ _ => rfl)) pa_nil)))) pss_nil)))))))
      (pss_one (ps_ret (pv 3))))), ?_⟩
    walk_at "go"
    intro F hF
    obtain ⟨H1, e1⟩ : ∃ H1, H1 = upd H F (.lst []) := ⟨_, rfl⟩
    have s1 : Same H H1 := by rw [e1]; exact Same.upd_new hF
    have hF1 : H1 F = some (.lst []) := by rw [e1, upd_same]
    rw [← e1]
    have ht1 := s1 _ _ ht
    have hth1 := (TK.same s1).sq hth
    refine sq_seq (stop_in ?_)
    walk_at "go"
    refine wait ?_
    refine forT (K := K) (a := th) (xs := h.throws.map V.str) (fun i σ H' => (∃ u4 u5, σ = [some (.ref D), some (.ref t), some (.int s), some (.ref F), u4, u5]) ∧ H' F = some (.lst (((h.throws.take i).flatMap (cw (L.map (·.2)) h.side s)).map V.str)) ∧ Same H H') ?_ ?_ ?_ ?_
    · exact ⟨⟨_, _, rfl⟩, hF1, s1⟩
    · exact fun i σ H' _ h => (TK.same h.2.2).sq hth
    · rintro i v σ H2 hi ⟨⟨u4, u5, rfl⟩, hF2, s2⟩
      rw [List.getElem?_map] at hi
      obtain ⟨w1, hw1, rfl⟩ := Option.map_eq_some_iff.mp hi
      have hlt := (List.getElem?_eq_some_iff.mp hw1).1
      have hls2 := s2 _ _ hls
      refine stop_in ?_
      walk_at "go"
      refine wait ?_
      have ln0 := cw_len (L.map (·.2)) h.side s (h.throws.take i)
      rw [List.length_map, List.length_take] at ln0
      have ln1 : ((h.throws.take i).flatMap (cw (L.map (·.2)) h.side s)).length ≤ 100 := by
        have : min i h.throws.length * L.length ≤ 4 * 6 := Nat.mul_le_mul (by omega) hl
        omega
      refine forL (K := K) (a := D) (xs := L.map fun e => V.ref e.1) (fun j σ H' => (∃ u5, σ = [some (.ref D), some (.ref t), some (.int s), some (.ref F), some (.str w1), u5]) ∧ H' F = some (.lst (((h.throws.take i).flatMap (cw (L.map (·.2)) h.side s) ++ (((L.take j).filter fun e => decide (e.2.word h.side = w1)).map fun e => e.2.word s)).map V.str)) ∧ Same H H') ?_ ?_ ?_ ?_
      · exact ⟨⟨_, rfl⟩, by rw [hF2]; simp, s2⟩
      · exact fun j σ H' _ h => SqL.of (h.2.2 _ _ hls)
      · rintro j v σ H3 hj ⟨⟨u5', rfl⟩, hF3, s3⟩
        rw [List.getElem?_map] at hj
        obtain ⟨e, he, rfl⟩ := Option.map_eq_some_iff.mp hj
        have hp : H3 e.1 = _ := s3 _ _ (PP.at_ e (List.mem_of_getElem? he))
        have ht3 := s3 _ _ ht
        have hat := pr_at e.2 hsd
        have hat2 := pr_at e.2 hs
        walk_at "go"
        have fl := filt_len (fun e : Addr × Pr => decide (e.2.word h.side = w1)) L j
        refine ifD (fun b => ?_) (fun b => ?_)
        · have b1 : e.2.word h.side = w1 := V.str.inj b
          walk_at "go"
          refine ⟨small_lt (by rw [List.length_map, List.length_append, List.length_map]; omega), wait ⟨⟨_, rfl⟩, ?_, fun x o e => upd_get (ne_of_none e hF) (s3 _ _ e)⟩⟩
          rw [upd_same, take_filt_yes he (decide_eq_true b1), List.map_append, List.map_append, List.map_append, List.map_append, ← List.append_assoc] <;> rfl
        · have b1 : ¬ e.2.word h.side = w1 := fun z => b (congrArg V.str z)
          refine wait ⟨⟨_, rfl⟩, ?_, s3⟩
          rw [take_filt_no he (decide_eq_false b1)]
          exact hF3
      · rintro σ H3 ⟨⟨u5', rfl⟩, hF3, s3⟩
        refine wait ⟨⟨_, _, rfl⟩, ?_, s3⟩
        rw [List.length_map, List.take_length] at hF3
        rw [hF3, List.take_add_one, hw1, Option.toList_some, List.flatMap_append]
        have : cw (L.map (·.2)) h.side s w1 = (L.filter fun e => decide (e.2.word h.side = w1)).map fun e => e.2.word s := by
          unfold cw
          rw [List.filter_map, List.map_map] <;> rfl
        rw [List.flatMap_cons, List.flatMap_nil, List.append_nil, this]
    · rintro σ H2 ⟨⟨u4, u5, rfl⟩, hF2, s2⟩
      rw [List.length_map, List.take_length] at hF2
      walk_at "go"
      exact q F H2 hF hF2 s2
def spTold (K : PySem.W.Frag) (C : Addr) : Sp := fun vs H Q _ => ∃ (x kp kd D F : Addr) (L : List (Addr × Pr)) (M : List (Addr × Hl)), vs = [.ref x, .ref D, .ref F] ∧ PactsH K C H x kp kd L M ∧ PairsAt H D L ∧ HelpersAt K H F M ∧ Good (L.map (·.2)) ∧ GoodH (L.map (·.2)) (M.map (·.2)) ∧
  ∀ H', Same H H' → Q (.bl true) H'
theorem ok__law_told (T : Txt K mg a) : FnOk P w K mg base CX0 6 a.f__law_told a.d__law_told ["_law_pacts", "_law_pairs_here", "_law_crew"] (spTold K a.c_Pacts) := by
  have G_Pacts_names := ok_Pacts_names (P := P) (w := w) (base := base) T
  have G_Pacts___len__ := ok_Pacts___len__ (P := P) (w := w) (base := base) T
  have G_Pacts_pairs := ok_Pacts_pairs (P := P) (w := w) (base := base) T
  have G_Pacts_pact := ok_Pacts_pact (P := P) (w := w) (base := base) T
  have G_Pacts_errors := ok_Pacts_errors (P := P) (w := w) (base := base) T
  have G__law_crossed := ok__law_crossed (P := P) (w := w) (base := base) T
  have cl_Pacts := T.cl_Pacts
  have na_Pacts_kept_pairs := T.na_Pacts_kept_pairs
  have na_Pacts_kept_pacts := T.na_Pacts_kept_pacts
  refine T.F__law_told.ok sc__law_told (fun vs H Q E h => ?_) (fun cdv A outer s H vs Q E hr h => ?_)
  · obtain ⟨x, kp, kd, D, F, L, M, rfl, _⟩ := h
    rfl
  · obtain ⟨x, kp, kd, D, F, L, M, rfl, PH, PD, HF, G, GH, q⟩ := h
    have gl := G.len
    have ghl := GH.len
    rw [List.length_map] at gl ghl
    have hlF := HF.ls
    have nd := GH.nd2
    have xh := GH.xh G
    have kb : PySem.W.kitOne K (.type "bool") (.type "bool") = some true := by
      unfold PySem.W.kitOne
      rw [if_pos (by simp)]
    refine ⟨_, (pss_cons (ps_stop (ps_for PassesOwn.never rfl (pi_wait (pi_range1 rfl T.z_range (pa_cons pe_int pa_nil))) (pg_name (i := 3) sc__law_told.nd rfl (Or.inr rfl)) (pss_one (ps_if (pt_cmpR (op_neD (hr.units)) (pe_meth (pv 0) T.cl_Pacts T.mt_Pacts_names G_Pacts_names (hr.mono (by decide)) T.b_Pacts_names .nil pass0 (pa_cons (pv 3) pa_nil)) (pe_lc (own := [("_law_helper", 4)]) (g := gName 4) (tt := (tTest (tOp _ (tOp (rIxT K) _ _) _))) (te := (tOp (rIxT K) _ _)) rfl sc__law_told.nd (pi_list (pv 2)) (blkOk_by (own := [("_law_helper", 4)]) (N := n__law_told) (sc := defScope s__law_told) (by decide +kernel)) (fun _ _ _ _ _ => (pg_name (i := 4) sc__law_told.nd rfl (Or.inl rfl))) (fun _ _ _ _ _ => (pts_one (pt_cmpR op_eq (pe_ix ix_tup (pv 4) pe_int (fun _ _ => rfl)) (pv 3) (nomark _)))) (fun _ _ _ _ _ => (pe_ix ix_tup (pv 4) pe_int (fun _ _ => rfl)))) (nomark _)) (pss_one (ps_ret pe_bl)) pss_nil))))
      (pss_cons (ps_stop (ps_for PassesOwn.never rfl (pi_wait (pi_list (pv 2))) (pg_name (i := 4) sc__law_told.nd rfl (Or.inl rfl)) (pss_cons (ps_if (PW.pt (pw_or (pt_cmpR (op_neD (hr.units)) (pe_meth (pv 0) T.cl_Pacts T.mt_Pacts_pact G_Pacts_pact (hr.mono (by decide)) T.b_Pacts_pact .nil passL (pa_cons (pe_ix ix_tup (pv 4) pe_int (fun _ _ => rfl)) pa_nil)) (pv 4) (nomark _)) (pw_or1 (pt_not (pt_val (pe_callB call_isi (by rfl) T.z_isinstance (by decide +kernel) (pa_cons (pe_ix ix_tup (pe_methK0 (pv 0) T.cl_Pacts T.mt_Pacts_pact G_Pacts_pact (hr.mono (by decide)) T.kb_Pacts_pact_name passL (pk_cons (pe_ix ix_tup (pv 4) pe_int (fun _ _ => rfl)) pk_nil)) pe_int (fun _ _ => rfl)) (pa_cons (pe_bltn (v := .ty "bool") (by rfl) T.z_bool (by decide +kernel) rfl) pa_nil)))))))) (pss_one (ps_ret pe_bl)) pss_nil)
      (pss_one (ps_stop (ps_for PassesOwn.never rfl (pi_wait (pi_range1 rfl T.z_range (pa_cons pe_int pa_nil))) (pg_name (i := 3) sc__law_told.nd rfl (Or.inr rfl)) (pss_one (ps_if (pt_cmpR (op_neD (hr.units)) (pe_methK (pv 0) T.cl_Pacts T.mt_Pacts_errors G_Pacts_errors (hr.mono (by decide)) T.kb_Pacts_errors_side passL (pa_cons (pe_ix ix_tup (pv 4) pe_int (fun _ _ => rfl)) pa_nil) (pk_cons (pv 3) pk_nil)) (pe_call G__law_crossed (hr.mono (by decide)) rfl T.m__law_crossed T.F__law_crossed.kp T.b__law_crossed .nil pass0 (pa_cons (pv 1) (pa_cons (pv 4) (pa_cons (pv 3) pa_nil)))) (nomark _)) (pss_one (ps_ret pe_bl)) pss_nil))))))))
      (pss_one (ps_ret (pe_and (pe_cmpR op_eq (pe_callB (call_lenO T.mt_Pacts___len__ G_Pacts___len__ (hr.mono (by decide)) T.b_Pacts___len__ pass0) (by rfl) T.z_len PySem.boot_len (pa_cons (pv 0) pa_nil)) (pe_callB call_lenK (by rfl) T.z_len PySem.boot_len (pa_cons (pv 2) pa_nil)) (nomark _)) (pe_one (pe_cmpR (op_eqD (hr.units)) (pe_meth0 (pv 0) T.cl_Pacts T.mt_Pacts_pairs G_Pacts_pairs (hr.mono (by decide)) T.b_Pacts_pairs .nil pass0) (pv 1) (nomark _)))))))), ?_⟩
    refine sq_seq (stop_in ?_)
    walk_at "go"
    refine wait ?_
    refine forR (lo := 0) (n := 2) (fun i σ H' => (∃ u3 u4, σ = [some (.ref x), some (.ref D), some (.ref F), u3, u4]) ∧ Same H H') ?_ ?_ ?_
    · exact ⟨⟨_, _, rfl⟩, fun _ _ e => e⟩
    · rintro i σ H1 hi ⟨⟨u3, u4, rfl⟩, s1⟩
      have hti : (0 + (i : Int)) = 0 ∨ (0 + (i : Int)) = 1 := by omega
      obtain ⟨ti, eti⟩ : ∃ ti : Int, ti = 0 + (i : Int) := ⟨_, rfl⟩
      rw [← eti] at hti ⊢
      have PH1 := PH.same s1
      obtain ⟨dx1, ho1⟩ := PH1.pa.ob
      have lM : M.length ≤ 10000 := by omega
      walk_at "go"
      intro D2 H2 hD2 h2 s2
      have hlF2 := (s1.trans s2) _ _ hlF
      have HF2 := HF.same (s1.trans s2)
      walk_at "go"
      intro D3 hD3
      refine lcL (K := K) (a := F) (xs := M.map fun e => V.ref e.1) (fun j H' => H' D3 = some (.lst ((((M.take j).filter fun e => decide (e.2.side = ti)).map fun e => e.2.name).map V.str)) ∧ Same H2 H') ?_ ?_ ?_ ?_
      · exact ⟨upd_same, Same.upd_new hD3⟩
      · exact fun i H' _ h => SqL.of (h.2 _ _ hlF2)
      · rintro j v H3 hj ⟨g1, g2⟩
        rw [List.getElem?_map] at hj
        obtain ⟨e, he, rfl⟩ := Option.map_eq_some_iff.mp hj
        obtain ⟨tk, th, he3, _, _⟩ := (HF2.at_ e (List.mem_of_getElem? he)).tk (TK.same g2)
        have hat0 : atI [V.str e.2.name, .int e.2.side, .ref tk, .bl e.2.gives, .ref th] 0 = some (.str e.2.name) := rfl
        have hat1 : atI [V.str e.2.name, .int e.2.side, .ref tk, .bl e.2.gives, .ref th] 1 = some (.int e.2.side) := rfl
        have fl := filt_len (fun e : Addr × Hl => decide (e.2.side = ti)) M j
        refine ⟨rfl, ?_⟩
        walk_at "go"
        refine ifD (fun b => ?_) (fun b => ?_)
        · have b1 : e.2.side = ti := V.int.inj b
          walk_at "go"
          refine ⟨small_lt (by rw [List.length_map, List.length_map]; omega), wait ⟨?_, fun x o e => upd_get (ne_of_none e hD3) (g2 x o e)⟩⟩
          rw [upd_same, take_filt_yes he (decide_eq_true b1), List.map_append, List.map_append] <;> rfl
        · have b1 : ¬ e.2.side = ti := fun z => b (congrArg V.int z)
          refine wait ⟨?_, fun x o e => g2 x o e⟩
          rw [take_filt_no he (decide_eq_false b1)]
          exact g1
      · rintro H3 ⟨g1, g2⟩
        rw [List.length_map, List.take_length] at g1
        have da : Dp K H3 (.ref D2) (.list (((M.filter fun e => decide (e.2.side = ti)).map fun e => e.2.name).map PyData.str)) := .lst (SqL.of (g2 _ _ h2)) (dp_strs _)
        have db : Dp K H3 (.ref D3) (.list (((M.filter fun e => decide (e.2.side = ti)).map fun e => e.2.name).map PyData.str)) := .lst (SqL.of g1) (dp_strs _)
        have sh : SeqAt.shaped (.list (((M.filter fun e => decide (e.2.side = ti)).map fun e => e.2.name).map PyData.str)) = true := shaped_strs fun w hw => by
          obtain ⟨e, he, rfl⟩ := List.mem_map.mp hw
          exact (GH.nm e.2 (List.mem_map.mpr ⟨e, (List.mem_filter.mp he).1, rfl⟩)).ok
        walk_at "go"
        rw [eqv_self sh]
        refine ifF rfl ?_
        exact wait ⟨⟨_, _, rfl⟩, (s1.trans s2).trans g2⟩
    · rintro σ H1 ⟨⟨u3, u4, rfl⟩, s1⟩
      refine sq_seq (stop_in ?_)
      have hlF1 := s1 _ _ hlF
      walk_at "go"
      refine wait ?_
      refine forL (K := K) (a := F) (xs := M.map fun e => V.ref e.1) (fun j σ H' => (∃ u3 u4, σ = [some (.ref x), some (.ref D), some (.ref F), u3, u4]) ∧ Same H H') ?_ ?_ ?_ ?_
      · exact ⟨⟨_, _, rfl⟩, s1⟩
      · exact fun j σ H' _ h => SqL.of (h.2 _ _ hlF)
      · rintro j v σ H2 hj ⟨⟨u3', u4', rfl⟩, s2⟩
        rw [List.getElem?_map] at hj
        obtain ⟨e, he, rfl⟩ := Option.map_eq_some_iff.mp hj
        have hem := List.mem_of_getElem? he
        have PH2 := PH.same s2
        obtain ⟨dx2, ho2⟩ := PH2.pa.ob
        have hat : HlAt K H2 (e.1, e.2) := (HF.same s2).at_ e hem
        obtain ⟨tk, th, he2, hk2, hh2⟩ := id hat
        have he2 : H2 e.1 = some (.tup [.str e.2.name, .int e.2.side, .ref tk, .bl e.2.gives, .ref th]) := he2
        have hat0 : atI [V.str e.2.name, .int e.2.side, .ref tk, .bl e.2.gives, .ref th] 0 = some (.str e.2.name) := rfl
        have hgm : e.2 ∈ M.map (·.2) := List.mem_map.mpr ⟨e, hem, rfl⟩
        have xm := xh.sw e.2 hgm
        have sh := shaped_hl (h := e.2) ⟨xm.1, xm.2.2.2.1, xm.2.2.2.2⟩
        have dd := hat.dp
        have O := GH.ok e.2 hgm
        walk_at "go"
        refine ⟨fun d hd z => ?_, fun no => absurd rfl (no e hem)⟩
        obtain rfl := name_one nd hd hem z
        walk_at "go"
        rw [eqv_self sh]
        refine ifF rfl ?_
        walk_at "go"
        refine ⟨fun d' hd' z' => ?_, fun no => absurd rfl (no d hem)⟩
        obtain rfl := name_one nd hd' hem z'
        walk_at "go"
        refine ⟨.ty _, .base (.bl _), kb, ?_⟩
        walk_at "go"
        refine stop_in ?_
        walk_at "go"
        refine wait ?_
        refine forR (lo := 0) (n := 2) (fun i σ H' => (∃ u3, σ = [some (.ref x), some (.ref D), some (.ref F), u3, some (.ref d'.1)]) ∧ Same H2 H') ?_ ?_ ?_
        · exact ⟨⟨_, rfl⟩, fun _ _ e => e⟩
        · rintro i σ H3 hi ⟨⟨u3'', rfl⟩, s3⟩
          have hti : (0 + (i : Int)) = 0 ∨ (0 + (i : Int)) = 1 := by omega
          obtain ⟨ti, eti⟩ : ∃ ti : Int, ti = 0 + (i : Int) := ⟨_, rfl⟩
          rw [← eti] at hti ⊢
          have PH3 := PH2.same s3
          obtain ⟨dx3, ho3⟩ := PH3.pa.ob
          have he3 := s3 _ _ he2
          walk_at "go"
          refine ⟨fun d'' hd'' z'' => ?_, fun no => absurd rfl (no d' hem)⟩
          obtain rfl := name_one nd hd'' hem z''
          intro D4 H4 hD4 h4 s4
          have hat4 : HlAt K H4 (d''.1, d''.2) := (hat.tk (TK.same s3)).tk (TK.same s4)
          have PD4 := (PD.same s2).same (s3.trans s4)
          have h44 := O.hl
          have hsd := O.sd
          walk_at "go"
          intro D5 H5 hD5 h5 s5
          have da : Dp K H5 (.ref D4) (.list ((crossed (L.map (·.2)) d''.2 ti).map PyData.str)) := .lst (SqL.of (s5 _ _ h4)) (dp_strs _)
          have db : Dp K H5 (.ref D5) (.list ((crossed (L.map (·.2)) d''.2 ti).map PyData.str)) := .lst (SqL.of h5) (dp_strs _)
          have sh5 : SeqAt.shaped (.list ((crossed (L.map (·.2)) d''.2 ti).map PyData.str)) = true := shaped_strs fun w hw => by
            unfold crossed at hw
            obtain ⟨v, _, hv⟩ := List.mem_flatMap.mp hw
            obtain ⟨p, hp, rfl⟩ := List.mem_map.mp hv
            have hp := (List.mem_filter.mp hp).1
            unfold Pr.word
            split
            · exact (G.kn p hp).ok
            · exact (G.kf p hp).ok
          walk_at "go"
          rw [eqv_self sh5]
          refine ifF rfl ?_
          exact wait ⟨⟨_, rfl⟩, (s3.trans s4).trans s5⟩
        · rintro σ H3 ⟨⟨u3'', rfl⟩, s3⟩
          exact wait ⟨⟨_, _, rfl⟩, s2.trans s3⟩
      · rintro σ H2 ⟨⟨u3', u4', rfl⟩, s2⟩
        have PH2 := PH.same s2
        obtain ⟨dx2, ho2⟩ := PH2.pa.ob
        have pa2 := PH2.pa
        have hlF2 := s2 _ _ hlF
        have lm : (M.map fun e => V.ref e.1).length = M.length := List.length_map _
        have hkl := hk_len M
        walk_at "go"
        refine ifYes (by rw [hkl, lm]) ?_
        walk_at "go"
        intro R hR
        obtain ⟨H3, e3⟩ : ∃ H3, H3 = upd H2 R (.lst (L.map fun e => V.ref e.1)) := ⟨_, rfl⟩
        have s3 : Same H2 H3 := by rw [e3]; exact Same.upd_new hR
        rw [← e3]
        have PD3 := (PD.same s2).same s3
        have PR3 : PairsAt H3 R L := ⟨by rw [e3, upd_same], PD3.at_⟩
        have da := PR3.dp (K := K)
        have db := PD3.dp (K := K)
        have sh := shaped_prs fun p hp => G.xp.sw p hp
        walk_at "go"
        rw [eqv_self sh]
        exact q _ (s2.trans s3)
end
end Pf
set_option Elab.async false
set_option linter.all false
set_option maxRecDepth 100000
set_option maxHeartbeats 4000000
namespace Pf
open PySem L2
local macro_rules | `(tactic| walk_at "nz") => `(tactic| (show (_ : Int) ≠ 0; omega))
local macro_rules | `(tactic| walk_at "ne") => `(tactic| first | assumption | (apply Ne.symm; assumption))
local macro_rules | `(tactic| walk_at "hp") => `(tactic| first | assumption | exact upd_same | (refine upd_get ?_ ?_; walk_at "ne"; walk_at "hp"))
local macro_rules | `(tactic| walk_at "sd") => `(tactic| first
  | (with_reducible show (_ : Int) < _; omega)
  | (with_reducible show (_ : Int) ≤ _; omega)
  | (with_reducible show (_ : Nat) < _; omega)
  | (with_reducible show (_ : Nat) ≤ _; omega)
  | rfl
  | assumption
  | exact kV_int _
  | exact kV_str _
  | (show (_ : Int) ≠ 0; omega)
  | exact SqL.of (by walk_at "hp")
  | exact ⟨_, SqL.of (by walk_at "hp")⟩
  | exact ⟨_, SqT.of (by walk_at "hp")⟩
  | exact ⟨_, (by assumption)⟩
  | exact SqT.of (by walk_at "hp")
  | exact Rd.of (by walk_at "hp")
  | exact Or.inl (SqL.of (by walk_at "hp"))
  | exact Or.inr (SqT.of (by walk_at "hp"))
  | exact Or.inr (by assumption)
  | (walk_at "hp")
  | (exact Or.inl ⟨rfl, _, SqL.of (by walk_at "hp")⟩)
  | (exact Or.inl ⟨by omega, by omega⟩)
  | (exact Or.inr ⟨by omega, by omega⟩)
  | (refine ⟨?_, ?_, ?_⟩ <;> omega)
  | omega
  | (exact small_le (by first | omega | (simp only [List.length_cons, List.length_nil]; omega)))
  | (exact small_lt (by first | omega | (simp only [List.length_cons, List.length_nil]; omega)))
  | exact Nat.le_of_ble_eq_true rfl
  | exact ⟨_, rfl⟩
  | decide)
local macro_rules | `(tactic| walk_at "st") => `(tactic| first
  | with_reducible refine sq_seq ?_
  | apply Exists.intro
  | (refine And.intro ?_ ?_; (walk_at "sd")))
local macro_rules | `(tactic| walk_at "go") => `(tactic| repeat (walk_at "st"))
section
variable {P : Program} {w : World} {K : PySem.W.Frag} {mg : Str → Option Value} {base : Heap} {a : Ad}
def spRefused (K : PySem.W.Frag) (C : Addr) : Sp := fun vs H Q _ => ∃ (x kp kd : Addr) (L : List (Addr × Pr)) (M : List (Addr × Hl)) (w : Str), vs = [.ref x, .str w] ∧ PactsH K C H x kp kd L M ∧ Good (L.map (·.2)) ∧ GoodH (L.map (·.2)) (M.map (·.2)) ∧ (∀ e ∈ M, e.2.name ≠ w) ∧
  ∀ H', Same H H' → Q (.bl true) H'
local macro_rules | `(tactic| walk_at "sd") => `(tactic| exact fun _ h => h)
theorem ok__law_refused (T : Txt K mg a) : FnOk P w K mg base CX0 6 a.f__law_refused a.d__law_refused ["_law_pacts", "_law_who"] (spRefused K a.c_Pacts) := by
  have G_Pacts_pact := ok_Pacts_pact (P := P) (w := w) (base := base) T
  have G_Pacts_errors := ok_Pacts_errors (P := P) (w := w) (base := base) T
  have cl_Pacts := T.cl_Pacts
  have na_Pacts_kept_pairs := T.na_Pacts_kept_pairs
  have na_Pacts_kept_pacts := T.na_Pacts_kept_pacts
  refine T.F__law_refused.ok sc__law_refused (fun vs H Q E h => ?_) (fun cdv A outer s H vs Q E hr h => ?_)
  · obtain ⟨x, kp, kd, L, M, w, rfl, _⟩ := h
    rfl
  · obtain ⟨x, kp, kd, L, M, w, rfl, PA, G, GH, hno, q⟩ := h
    have ec := T.ec_NoHelper
    have k1 := kit_exm T.ex_NoHelper_NoHelper T.ex_NoHelper_NoHelper
    have k2 := kit_exm T.ex_NoHelper_NoHelper T.ex_NoHelper_NoWord
    have k3 := kit_bl T.ex_NoHelper_ValueError (by decide +kernel)
    have nd := GH.nd2
    refine ⟨_, (pss_cons (ps_set (i := 2) sc__law_refused.nd rfl (Or.inl rfl) (pe_lst pa_nil))
      (pss_mid (ps_try_cls (tb := fun W => (tDrop (tMethW _ _ _ (WE W) _ _))) (l := [⟨.ref a.c_PactError, some 3, fun ea cls dd => (tDrop (tBM K "list" _ _ (tCons (tAndV (tCB (rIsW K ea cls dd) _) (tAndV (tNotV (tCB (rIsW K ea cls dd) _)) (tOp _ (tXf ea cls dd a.c_NoHelper "name" (tVar 3)) _))) tNil)))⟩]) (Wout := fun _ _ _ _ => False) rfl rfl takes0 (fun W pn xe tk po => (pss_one (ps_expr (pe_methW (pv 0) T.cl_Pacts T.mt_Pacts_pact G_Pacts_pact (hr.mono (by decide)) T.b_Pacts_pact (fun σ => passAt tk σ) (by exact (pa_cons (pv 1) pa_nil)))))) (ClsOk.named (i := 3) sc__law_refused.nd rfl rfl ⟨rfl, by decide, Or.inl T.m_PactError⟩ (fun ea oe cls dd pn hz hf => (pss_one (ps_expr (pe_bm PySem.F.plainAttrs_list PySem.F.slot_list_append PySem.F.type_list_append mt_append (pv 2) (pa_cons (pe_and (pe_callB (call_isW hz hf) (by rfl) T.z_isinstance (by decide +kernel) (by exact (pa_cons (pv 3) (pa_cons (pe_glob (v := .ref a.c_NoHelper) rfl T.m_NoHelper rfl) pa_nil)))) (pe_and (pe_not (pe_callB (call_isW hz hf) (by rfl) T.z_isinstance (by decide +kernel) (by exact (pa_cons (pv 3) (pa_cons (pe_glob (v := .ref a.c_NoWord) rfl T.m_NoWord rfl) pa_nil))))) (pe_one (pe_cmpR op_eq (pe_xf T.xf_NoHelper T.na_NoHelper_name hz hf (pv 3)) (pv 1) (nomark _))))) pa_nil))))) ClsOk.nil))
      (pss_mid (ps_try_cls (tb := fun W => (tDrop (tMethKW _ _ _ _ (WE W) _ _ _))) (l := [⟨.ref a.c_PactError, some 3, fun ea cls dd => (tDrop (tBM K "list" _ _ (tCons (tAndV (tCB (rIsW K ea cls dd) _) (tAndV (tCB (rIsW K ea cls dd) _) (tOp _ (tXf ea cls dd a.c_NoHelper "name" (tVar 3)) _))) tNil)))⟩]) (Wout := fun _ _ _ _ => False) rfl rfl takes0 (fun W pn xe tk po => (pss_one (ps_expr (pe_methKW (pv 0) T.cl_Pacts T.mt_Pacts_errors G_Pacts_errors (hr.mono (by decide)) T.kb_Pacts_errors_side (fun σ => passAt tk σ) (by exact (pa_cons (pv 1) pa_nil) ) (by exact (pk_cons pe_int pk_nil)))))) (ClsOk.named (i := 3) sc__law_refused.nd rfl rfl ⟨rfl, by decide, Or.inl T.m_PactError⟩ (fun ea oe cls dd pn hz hf => (pss_one (ps_expr (pe_bm PySem.F.plainAttrs_list PySem.F.slot_list_append PySem.F.type_list_append mt_append (pv 2) (pa_cons (pe_and (pe_callB (call_isW hz hf) (by rfl) T.z_isinstance (by decide +kernel) (by exact (pa_cons (pv 3) (pa_cons (pe_glob (v := .ref a.c_NoHelper) rfl T.m_NoHelper rfl) pa_nil)))) (pe_and (pe_callB (call_isW hz hf) (by rfl) T.z_isinstance (by decide +kernel) (by exact (pa_cons (pv 3) (pa_cons (pe_bltn (v := .ty "ValueError") (by rfl) T.z_ValueError (by decide +kernel) rfl) pa_nil)))) (pe_one (pe_cmpR op_eq (pe_xf T.xf_NoHelper T.na_NoHelper_name hz hf (pv 3)) (pv 1) (nomark _))))) pa_nil))))) ClsOk.nil))
      (pss_one (ps_ret (pe_cmpR (op_eqD (hr.units)) (pv 2) (pe_lst (pa_cons pe_bl (pa_cons pe_bl pa_nil))) (nomark _))))))), ?_⟩
    refine ⟨Nat.zero_le _, fun D hD => ?_⟩
    have s1 : Same H (upd H D (.lst [])) := Same.upd_new hD
    have PA1 := PA.same s1
    obtain ⟨dx, ho⟩ := PA1.pa.ob
    refine mid_of (fun σ H' => (∃ u, σ = [some (.ref x), some (.str w), some (.ref D), u]) ∧ H' D = some (.lst [.bl true]) ∧ ∀ y o, y ≠ D → H y = some o → H' y = some o) ?_ ?_
    · walk_at "go"
      refine ⟨fun e he z => absurd z (hno e he), fun _ d H2 hd0 hd1 s2 => ?_⟩
      have hD2 : H2 D = some (.lst []) := s2 _ _ upd_same
      refine ⟨true, T.ex_NoHelper_PactError, fun _ ea hea => ?_, fun z => nomatch z⟩
      walk_at "go"
      refine wait ⟨⟨_, rfl⟩, ?_, fun y o n e => upd_get n (s2 _ _ (s1 _ _ e))⟩
      rw [upd_same, decide_eq_true rfl] <;> rfl
    · rintro σ H1 ⟨⟨u, rfl⟩, hD1, k1⟩
      have sH : Same H H1 := fun y o e => k1 y o (ne_of_none e hD) e
      have PA2 := PA.same sH
      obtain ⟨dx2, ho2⟩ := PA2.pa.ob
      have hs0 : (0 : Int) = 0 ∨ (0 : Int) = 1 := .inl rfl
      refine mid_of (fun σ H' => (∃ u, σ = [some (.ref x), some (.str w), some (.ref D), u]) ∧ H' D = some (.lst [.bl true, .bl true]) ∧ ∀ y o, y ≠ D → H y = some o → H' y = some o) ?_ ?_
      · walk_at "go"
        refine ⟨fun e he z => absurd z (hno e he), fun _ d H2 hd0 hd1 s2 => ?_⟩
        have hD2 : H2 D = some (.lst [.bl true]) := s2 _ _ hD1
        refine ⟨true, T.ex_NoHelper_PactError, fun _ ea hea => ?_, fun z => nomatch z⟩
        walk_at "go"
        refine wait ⟨⟨_, rfl⟩, ?_, fun y o n e => upd_get n (s2 _ _ (k1 y o n e))⟩
        rw [upd_same, decide_eq_true rfl] <;> rfl
      · rintro σ H2 ⟨⟨u, rfl⟩, hD2, k2⟩
        walk_at "go"
        intro p hp
        have dD : Dp K (upd H2 p (.lst [.bl true, .bl true])) (.ref D) (.list [.bool true, .bool true]) := .lst (SqL.of (Same.upd_new hp _ _ hD2)) (.cons (.bl _) (.cons (.bl _) .nil))
        have dp : Dp K (upd H2 p (.lst [.bl true, .bl true])) (.ref p) (.list [.bool true, .bool true]) := .lst (SqL.of upd_same) (.cons (.bl _) (.cons (.bl _) .nil))
        refine ⟨_, _, dD, dp, rfl, rfl, ?_⟩
        rw [eqv_self rfl]
        exact q _ fun y o e => Same.upd_new hp _ _ (k2 y o (ne_of_none e hD) e)
end
end Pf
set_option Elab.async false
set_option linter.all false
set_option maxRecDepth 100000
set_option maxHeartbeats 4000000
namespace Pf
open PySem L2
local macro_rules | `(tactic| walk_at "nz") => `(tactic| (show (_ : Int) ≠ 0; omega))
local macro_rules | `(tactic| walk_at "ne") => `(tactic| first | assumption | (apply Ne.symm; assumption))
local macro_rules | `(tactic| walk_at "hp") => `(tactic| first | assumption | exact upd_same | (refine upd_get ?_ ?_; walk_at "ne"; walk_at "hp"))
local macro_rules | `(tactic| walk_at "sd") => `(tactic| first
  | (with_reducible show (_ : Int) < _; omega)
  | (with_reducible show (_ : Int) ≤ _; omega)
  | (with_reducible show (_ : Nat) < _; omega)
  | (with_reducible show (_ : Nat) ≤ _; omega)
  | rfl
  | assumption
  | exact kV_int _
  | exact kV_str _
  | (show (_ : Int) ≠ 0; omega)
  | exact SqL.of (by walk_at "hp")
  | exact ⟨_, SqL.of (by walk_at "hp")⟩
  | exact ⟨_, SqT.of (by walk_at "hp")⟩
  | exact ⟨_, (by assumption)⟩
  | exact SqT.of (by walk_at "hp")
  | exact Rd.of (by walk_at "hp")
  | exact Or.inl (SqL.of (by walk_at "hp"))
  | exact Or.inr (SqT.of (by walk_at "hp"))
  | exact Or.inr (by assumption)
  | (walk_at "hp")
  | (exact Or.inl ⟨rfl, _, SqL.of (by walk_at "hp")⟩)
  | (exact Or.inl ⟨by omega, by omega⟩)
  | (exact Or.inr ⟨by omega, by omega⟩)
  | (refine ⟨?_, ?_, ?_⟩ <;> omega)
  | omega
  | (exact small_le (by first | omega | (simp only [List.length_cons, List.length_nil]; omega)))
  | (exact small_lt (by first | omega | (simp only [List.length_cons, List.length_nil]; omega)))
  | exact Nat.le_of_ble_eq_true rfl
  | exact ⟨_, rfl⟩
  | decide)
local macro_rules | `(tactic| walk_at "st") => `(tactic| first
  | with_reducible refine sq_seq ?_
  | apply Exists.intro
  | (refine And.intro ?_ ?_; (walk_at "sd")))
local macro_rules | `(tactic| walk_at "go") => `(tactic| repeat (walk_at "st"))
section
variable {P : Program} {w : World} {K : PySem.W.Frag} {mg : Str → Option Value} {base : Heap} {a : Ad}
theorem rev_ne {l : List Str} (nd : l.Nodup) (h : 1 < l.length) : l.reverse ≠ l := fun z => by
  have h1 : l.reverse[0]? = l[0]? := by rw [z]
  rw [List.getElem?_reverse (by omega)] at h1
  have := (List.getElem?_inj (by omega) nd).mp h1
  omega
theorem cutL_last {α : Type} (xs : List α) : (xs.drop (HT.sIx xs.length 0 none)).take (HT.sIx xs.length xs.length (some (-1)) - HT.sIx xs.length 0 none) = xs.dropLast := by
  rw [HT.sIx_none, List.drop_zero, Nat.sub_zero, List.dropLast_eq_take]
  have : HT.sIx xs.length xs.length (some (-1)) = xs.length - 1 := by
    show (if (-1 : Int) < 0 then ((-1 : Int) + (xs.length : Int)).toNat else min (-1 : Int).toNat xs.length) = xs.length - 1
    rw [if_pos (by decide)]
    omega
  rw [this]
theorem strs_at2 {ws : List Str} {r : Int} (h0 : 0 ≤ r) (h1 : r < (ws.length : Int)) : ∃ w, atI (ws.map V.str) r = some (.str w) ∧ ws[r.toNat]? = some w := by
  obtain ⟨v, e1, e2⟩ := atI_in (xs := ws.map V.str) h0 (by rw [List.length_map]; exact h1)
  rw [List.getElem?_map] at e2
  obtain ⟨w, hw, rfl⟩ := Option.map_eq_some_iff.mp e2
  exact ⟨w, e1, hw⟩
theorem how_at (w : Str) : ∃ how, atI [V.str "lent", .str "given"] (if decide (V.str w = V.str "lent") = true then 1 else 0) = some (.str how) ∧ how ≠ w ∧ how ∈ hows := by
  by_cases h : w = "lent"
  · subst h
    exact ⟨"given", by rw [if_pos (by simp)] <;> rfl, by decide +kernel, by decide +kernel⟩
  · refine ⟨"lent", ?_, fun z => h z.symm, by decide +kernel⟩
    rw [if_neg (by intro z; exact h (V.str.inj (of_decide_eq_true z)))] <;> rfl
theorem cutV_last (xs : List V) : cutV xs none (some (-1)) = xs.dropLast := cutL_last xs
/-! slices and sums of tuples, where the walk halts -/
@[irreducible] def rSlH (K : PySem.W.Frag) : V → Option Int → Option Int → Hp → VK → Prop := rSlA K
theorem sl_tupH {X : Cx} : SlR X (rSlH X.K) := by
  unfold rSlH
  exact sl_tupA
theorem slH_of {K : PySem.W.Frag} {a : Addr} {xs : List V} {lo hi : Option Int} {H : Hp} {Q : VK} (ha : SqT K H a xs) (q : ∀ r H', Same H H' → SqT K H' r (cutV xs lo hi) → Q (.ref r) H') : rSlH K (.ref a) lo hi H Q := by
  unfold rSlH
  exact slA_of ha q
@[irreducible] def rCatH (K : PySem.W.Frag) : R2 := rCatA K
theorem op_catH {X : Cx} : OpR X (binaryOp .Add) (rCatH X.K) := by
  unfold rCatH
  exact op_catA
theorem catH_of {K : PySem.W.Frag} {a b : Addr} {xs ys : List V} {H : Hp} {Q : VK} (ha : SqT K H a xs) (hb : SqT K H b ys) (hz : xs.length + ys.length ≤ sizeLine) (q : ∀ r H', Same H H' → SqT K H' r (xs ++ ys) → Q (.ref r) H') : rCatH K (.ref a) (.ref b) H Q := by
  unfold rCatH
  exact catA_of ha hb hz q
def spRow (K : PySem.W.Frag) : Sp := fun vs H Q _ => ∃ (b g l t : Addr) (n : Int) (ps : List Pr) (h : Hl), vs = [.ref b, .ref t] ∧ BoxAt H b g l n ∧ n ≤ 700000 ∧ HlAt K H (t, h) ∧ HOk ps h ∧
  ∀ (t' : Addr) (h' : Hl) (n' : Int) (H' : Hp), HlAt K H' (t', h') → HOk ps h' → h'.name = h.name → h'.side = h.side → h' ≠ h → BoxAt H' b g l n' → n' ≤ n + 2 → Keep2 b g H H' → Q (.ref t') H'
theorem ok__law_row_otherwise (T : Txt K mg a) : FnOk P w K mg base CX0 3 a.f__law_row_otherwise a.d__law_row_otherwise ["_law_box_here", "_law_helper"] (spRow K) := by
  have G__law_take := ok__law_take (P := P) (w := w) (base := base) T
  refine T.F__law_row_otherwise.ok sc__law_row_otherwise (fun vs H Q E h => ?_) (fun cdv A outer s H vs Q E hr h => ?_)
  · obtain ⟨b, g, l, t, n, ps, h, rfl, _⟩ := h
    rfl
  · obtain ⟨b, g, l, t, n, ps, h, rfl, B, hn, HT, O, q⟩ := h
    obtain ⟨tk, th, ht, htk, hth⟩ := HT
    have ht : H t = some (.tup [.str h.name, .int h.side, .ref tk, .bl h.gives, .ref th]) := ht
    have htk : SqT K H tk (h.takes.map V.str) := htk
    have hth : SqT K H th (h.throws.map V.str) := hth
    have o1 := O.tl
    have o2 := O.hl
    have lt : (h.takes.map V.str).length = h.takes.length := List.length_map _
    have lh : (h.throws.map V.str).length = h.throws.length := List.length_map _
    refine ⟨_, (pss_cons (ps_asg (pv 1) (pg_tup rfl (pgs_cons (pg_name (i := 2) sc__law_row_otherwise.nd rfl (Or.inl rfl)) (pgs_cons (pg_name (i := 3) sc__law_row_otherwise.nd rfl (Or.inl rfl)) (pgs_cons (pg_name (i := 4) sc__law_row_otherwise.nd rfl (Or.inl rfl)) (pgs_cons (pg_name (i := 5) sc__law_row_otherwise.nd rfl (Or.inl rfl)) (pgs_cons (pg_name (i := 6) sc__law_row_otherwise.nd rfl (Or.inl rfl)) pgs_nil)))))))
      (pss_cons (ps_set (i := 7) sc__law_row_otherwise.nd rfl (Or.inl rfl) (pe_call G__law_take (hr.mono (by decide)) rfl T.m__law_take T.F__law_take.kp T.b__law_take .nil pass0 (pa_cons (pv 0) (pa_cons pe_int pa_nil))))
      (pss_cons (ps_if (pt_mid (PW.pt (pw_and (pt_cmpR op_lt (pv 7) pe_int (nomark _)) (pw_and1 (pt_cmpR op_gt (pe_callB call_lenK (by rfl) T.z_len PySem.boot_len (pa_cons (pv 4) pa_nil)) pe_int (nomark _)))))) (pss_cons (ps_set (i := 8) sc__law_row_otherwise.nd rfl (Or.inl rfl) (pe_call G__law_take (hr.mono (by decide)) rfl T.m__law_take T.F__law_take.kp T.b__law_take .nil pass0 (pa_cons (pv 0) (pa_cons (pe_callB call_lenK (by rfl) T.z_len PySem.boot_len (pa_cons (pv 4) pa_nil)) pa_nil))))
      (pss_cons (ps_set (i := 9) sc__law_row_otherwise.nd rfl (Or.inl rfl) (pe_ix ix_list (pe_lst (pa_cons pe_str (pa_cons pe_str pa_nil))) (pe_callTy call_int1 (by rfl) T.z_int (by decide +kernel) (pa_cons (pe_cmpR op_eq (pe_ix ix_tup (pv 4) (pv 8) (fun _ _ => rfl)) pe_str (nomark _)) pa_nil)) (fun _ _ => rfl)))
      (pss_one (ps_ret (pe_tup (pa_cons (pv 2) (pa_cons (pv 3) (pa_cons (pe_op op_catH (pe_op op_catH (pe_slice sl_tupH (pv 4) po_none (po_some (pv 8))) (pe_ix ix_list (pe_lst (pa_cons (pe_tup pa_nil) (pa_cons (pe_tup (pa_cons (pv 9) pa_nil)) pa_nil))) (pv 7) (fun _ _ => rfl))) (pe_slice sl_tupH (pv 4) (po_some (pe_op op_add (pv 8) pe_int)) po_none)) (pa_cons (pv 5) (pa_cons (pv 6) pa_nil)))))))))) pss_nil)
      (pss_cons (ps_if (pt_mid (PW.pt (pw_and (pt_cmpR op_eq (pv 7) pe_int (nomark _)) (pw_and1 (pt_cmpR op_gt (pe_callB call_lenK (by rfl) T.z_len PySem.boot_len (pa_cons (pv 6) pa_nil)) pe_int (nomark _)))))) (pss_one (ps_ret (pe_tup (pa_cons (pv 2) (pa_cons (pv 3) (pa_cons (pv 4) (pa_cons (pv 5) (pa_cons (pe_revT (pv 6)) pa_nil)))))))) pss_nil)
      (pss_cons (ps_if (pt_mid (PW.pt (pw_and (pt_cmpR op_eq (pv 7) pe_int (nomark _)) (pw_and1 (pt_cmpR op_gt (pe_callB call_lenK (by rfl) T.z_len PySem.boot_len (pa_cons (pv 6) pa_nil)) pe_int (nomark _)))))) (pss_one (ps_ret (pe_tup (pa_cons (pv 2) (pa_cons (pv 3) (pa_cons (pv 4) (pa_cons (pv 5) (pa_cons (pe_slice sl_tupH (pv 6) po_none (po_some (pe_un un_neg pe_int))) pa_nil)))))))) pss_nil)
      (pss_one (ps_ret (pe_tup (pa_cons (pv 2) (pa_cons (pv 3) (pa_cons (pv 4) (pa_cons (pe_not (pv 5)) (pa_cons (pv 6) pa_nil))))))))))))), ?_⟩
    walk_at "go"
    intro r1 H1 r10 r11 B1 k1
    have tk1 := B.tk k1
    have htk1 := tk1.sq htk
    have hth1 := tk1.sq hth
    refine sq_seq (midT_of (fun c H2 => H2 = H1 ∧ (c = true → r1 < 2 ∧ 0 < h.takes.length)) ?_ ?_)
    · walk_at "go"
      refine ifD (fun c1 => ?_) (fun c1 => ?_)
      · walk_at "go"
        exact wait ⟨rfl, fun z => ⟨c1, by have := of_decide_eq_true z; omega⟩⟩
      · exact wait ⟨rfl, fun z => nomatch z⟩
    rintro c H2 ⟨rfl, hc⟩
    refine ifB (fun e => ?_) (fun e => ?_)
    · have hc := hc e
      walk_at "go"
      intro r3 H3 r30 r31 B3 k3
      have tk3 := B1.tk k3
      have htk3 := tk3.sq htk1
      have hth3 := tk3.sq hth1
      rw [lt] at r31
      obtain ⟨w1, hw1, hw2⟩ := strs_at2 r30 r31
      obtain ⟨how, hh1, hh2, hh3⟩ := how_at w1
      walk_at "go"
      intro p4 hp4
      obtain ⟨H4, e4⟩ : ∃ H4, H4 = upd H3 p4 (.lst [.str "lent", .str "given"]) := ⟨_, rfl⟩
      have s4 : Same H3 H4 := by rw [e4]; exact Same.upd_new hp4
      have hp44 : H4 p4 = some (.lst [.str "lent", .str "given"]) := by rw [e4, upd_same]
      rw [← e4]
      have htk4 := (TK.same s4).sq htk3
      walk_at "go"
      refine .inr ⟨_, rfl, ?_⟩
      walk_at "go"
      refine slH_of htk4 fun a5 H5 s5 ha5 => ?_
      rw [cutV_toI _ r30, ← List.map_take] at ha5
      walk_at "go"
      intro p6 hp6
      obtain ⟨H6, e6⟩ : ∃ H6, H6 = upd H5 p6 (.tup []) := ⟨_, rfl⟩
      have s6 : Same H5 H6 := by rw [e6]; exact Same.upd_new hp6
      have hp66 : H6 p6 = some (.tup []) := by rw [e6, upd_same]
      rw [← e6]
      walk_at "go"
      intro p7 hp7
      obtain ⟨H7, e7⟩ : ∃ H7, H7 = upd H6 p7 (.tup [.str how]) := ⟨_, rfl⟩
      have s7 : Same H6 H7 := by rw [e7]; exact Same.upd_new hp7
      have hp77 : H7 p7 = some (.tup [.str how]) := by rw [e7, upd_same]
      rw [← e7]
      walk_at "go"
      intro p8 hp8
      obtain ⟨H8, e8⟩ : ∃ H8, H8 = upd H7 p8 (.lst [.ref p6, .ref p7]) := ⟨_, rfl⟩
      have s8 : Same H7 H8 := by rw [e8]; exact Same.upd_new hp8
      have hp88 : H8 p8 = some (.lst [.ref p6, .ref p7]) := by rw [e8, upd_same]
      rw [← e8]
      obtain ⟨pm, mid, ha8, hm8, hmid⟩ : ∃ (pm : Addr) (mid : List Str), atI [V.ref p6, .ref p7] r1 = some (.ref pm) ∧ SqT K H8 pm (mid.map V.str) ∧ (mid = [] ∨ mid = [how]) := by
        have : r1 = 0 ∨ r1 = 1 := by omega
        rcases this with rfl | rfl
        · exact ⟨p6, [], rfl, SqT.of (s8 _ _ (s7 _ _ hp66)), .inl rfl⟩
        · exact ⟨p7, [how], rfl, SqT.of (s8 _ _ hp77), .inr rfl⟩
      have lmid : mid.length ≤ 1 := by
        rcases hmid with rfl | rfl
        · exact Nat.zero_le _
        · exact Nat.le_refl _
      have ha58 := (TK.same ((s6.trans s7).trans s8)).sq ha5
      walk_at "go"
      have lk := List.length_take (i := r3.toNat) (l := h.takes)
      refine catH_of ha58 hm8 (small_le (by rw [List.length_map, List.length_map]; omega)) fun a9 H9 s9 ha9 => ?_
      rw [← List.map_append] at ha9
      have s49 : Same H4 H9 := s5.trans ((s6.trans s7).trans (s8.trans s9))
      have htk9 := (TK.same s49).sq htk4
      walk_at "go"
      refine slH_of htk9 fun a10 H10 s10 ha10 => ?_
      rw [cutV_fromI _ (show 0 ≤ r3 + 1 by omega), ← List.map_drop, show (r3 + 1).toNat = r3.toNat + 1 by omega] at ha10
      have ha910 := (TK.same s10).sq ha9
      have ld := List.length_drop (i := r3.toNat + 1) (l := h.takes)
      refine catH_of ha910 ha10 (small_le (by rw [List.length_map, List.length_map, List.length_append]; omega)) fun a11 H11 s11 ha11 => ?_
      rw [← List.map_append] at ha11
      walk_at "go"
      intro p12 hp12
      obtain ⟨H12, e12⟩ : ∃ H12, H12 = upd H11 p12 (.tup [.str h.name, .int h.side, .ref a11, .bl h.gives, .ref th]) := ⟨_, rfl⟩
      have s12 : Same H11 H12 := by rw [e12]; exact Same.upd_new hp12
      have hp1212 : H12 p12 = some (.tup [.str h.name, .int h.side, .ref a11, .bl h.gives, .ref th]) := by rw [e12, upd_same]
      have s312 : Same H3 H12 := s4.trans (s49.trans ((s10.trans s11).trans s12))
      have hlt : r3.toNat < h.takes.length := by omega
      show Q (.ref p12) (upd H11 p12 (.tup [.str h.name, .int h.side, .ref a11, .bl h.gives, .ref th]))
      rw [← e12]
      refine q p12 ⟨h.name, h.side, h.takes.take r3.toNat ++ mid ++ h.takes.drop (r3.toNat + 1), h.gives, h.throws⟩ _ H12 ⟨a11, th, hp1212, (TK.same s12).sq ha11, (TK.same s312).sq hth3⟩ ⟨O.sd, ?_, fun w hw => ?_, O.hl, O.hn, O.hw⟩ rfl rfl (fun z => ?_) (B3.same s312) (by omega) (k1.trans (k3.trans fun x o _ _ e => s312 _ _ e))
      · show (h.takes.take r3.toNat ++ mid ++ h.takes.drop (r3.toNat + 1)).length ≤ 3
        rw [List.length_append, List.length_append]
        omega
      · rcases List.mem_append.mp hw with z | z
        · rcases List.mem_append.mp z with y | y
          · exact O.tk w (List.mem_of_mem_take y)
          · rcases hmid with rfl | rfl
            · cases y
            · rw [List.mem_singleton.mp y]
              exact hh3
        · exact O.tk w (List.mem_of_mem_drop z)
      · have z1 : h.takes.take r3.toNat ++ mid ++ h.takes.drop (r3.toNat + 1) = h.takes := congrArg Hl.takes z
        rcases hmid with rfl | rfl
        · have := congrArg List.length z1
          rw [List.length_append, List.length_append] at this
          have e0 : ([] : List Str).length = 0 := rfl
          omega
        · exact put_ne hw2 hh2.symm z1
    refine sq_seq (midT_of (fun c H3 => H3 = H2 ∧ (c = true → 1 < h.throws.length)) ?_ ?_)
    · walk_at "go"
      refine ifD (fun c1 => ?_) (fun c1 => ?_)
      · walk_at "go"
        exact wait ⟨rfl, fun z => by have := of_decide_eq_true z; omega⟩
      · exact wait ⟨rfl, fun z => nomatch z⟩
    rintro c2 H3 ⟨rfl, hc2⟩
    refine ifB (fun e => ?_) (fun e => ?_)
    · have hc2 := hc2 e
      walk_at "go"
      intro p4 hp4
      obtain ⟨H4, e4⟩ : ∃ H4, H4 = upd H3 p4 (.tup (h.throws.map V.str).reverse) := ⟨_, rfl⟩
      have s4 : Same H3 H4 := by rw [e4]; exact Same.upd_new hp4
      have hp44 : H4 p4 = some (.tup (h.throws.reverse.map V.str)) := by rw [e4, upd_same, List.map_reverse]
      rw [← e4]
      walk_at "go"
      intro p5 hp5
      obtain ⟨H5, e5⟩ : ∃ H5, H5 = upd H4 p5 (.tup [.str h.name, .int h.side, .ref tk, .bl h.gives, .ref p4]) := ⟨_, rfl⟩
      have s5 : Same H4 H5 := by rw [e5]; exact Same.upd_new hp5
      have hp55 : H5 p5 = some (.tup [.str h.name, .int h.side, .ref tk, .bl h.gives, .ref p4]) := by rw [e5, upd_same]
      show Q (.ref p5) (upd H4 p5 (.tup [.str h.name, .int h.side, .ref tk, .bl h.gives, .ref p4]))
      rw [← e5]
      refine q p5 ⟨h.name, h.side, h.takes, h.gives, h.throws.reverse⟩ _ H5 ⟨tk, p4, hp55, (TK.same (s4.trans s5)).sq htk1, SqT.of (s5 _ _ hp44)⟩ ⟨O.sd, O.tl, O.tk, by show h.throws.reverse.length ≤ 4; rw [List.length_reverse]; exact O.hl, List.pairwise_reverse.mpr (O.hn.imp fun h => h.symm), fun w hw => O.hw w (List.mem_reverse.mp hw)⟩ rfl rfl (fun z => rev_ne O.hn hc2 (congrArg Hl.throws z)) (B1.same (s4.trans s5)) (by omega) (k1.trans fun x o _ _ e => s5 _ _ (s4 _ _ e))
    refine sq_seq (midT_of (fun c H4 => H4 = H3 ∧ (c = true → 0 < h.throws.length)) ?_ ?_)
    · walk_at "go"
      refine ifD (fun c1 => ?_) (fun c1 => ?_)
      · walk_at "go"
        exact wait ⟨rfl, fun z => by have := of_decide_eq_true z; omega⟩
      · exact wait ⟨rfl, fun z => nomatch z⟩
    rintro c3 H4 ⟨rfl, hc3⟩
    refine ifB (fun e => ?_) (fun e => ?_)
    · have hc3 := hc3 e
      walk_at "go"
      refine slH_of hth1 fun a5 H5 s5 ha5 => ?_
      rw [cutV_last, ← List.map_dropLast] at ha5
      walk_at "go"
      intro p6 hp6
      obtain ⟨H6, e6⟩ : ∃ H6, H6 = upd H5 p6 (.tup [.str h.name, .int h.side, .ref tk, .bl h.gives, .ref a5]) := ⟨_, rfl⟩
      have s6 : Same H5 H6 := by rw [e6]; exact Same.upd_new hp6
      have hp66 : H6 p6 = some (.tup [.str h.name, .int h.side, .ref tk, .bl h.gives, .ref a5]) := by rw [e6, upd_same]
      show Q (.ref p6) (upd H5 p6 (.tup [.str h.name, .int h.side, .ref tk, .bl h.gives, .ref a5]))
      rw [← e6]
      have hsub := List.dropLast_sublist h.throws
      refine q p6 ⟨h.name, h.side, h.takes, h.gives, h.throws.dropLast⟩ _ H6 ⟨tk, a5, hp66, (TK.same (s5.trans s6)).sq htk1, (TK.same s6).sq ha5⟩ ⟨O.sd, O.tl, O.tk, Nat.le_trans hsub.length_le O.hl, hsub.nodup O.hn, fun w hw => O.hw w (hsub.subset hw)⟩ rfl rfl (fun z => ?_) (B1.same (s5.trans s6)) (by omega) (k1.trans fun x o _ _ e => s6 _ _ (s5 _ _ e))
      have z1 : h.throws.dropLast = h.throws := congrArg Hl.throws z
      have := congrArg List.length z1
      rw [List.length_dropLast] at this
      omega
    · walk_at "go"
      intro p6 hp6
      obtain ⟨H6, e6⟩ : ∃ H6, H6 = upd H4 p6 (.tup [.str h.name, .int h.side, .ref tk, .bl (!h.gives), .ref th]) := ⟨_, rfl⟩
      have s6 : Same H4 H6 := by rw [e6]; exact Same.upd_new hp6
      have hp66 : H6 p6 = some (.tup [.str h.name, .int h.side, .ref tk, .bl (!h.gives), .ref th]) := by rw [e6, upd_same]
      show Q (.ref p6) (upd H4 p6 (.tup [.str h.name, .int h.side, .ref tk, .bl (!h.gives), .ref th]))
      rw [← e6]
      refine q p6 ⟨h.name, h.side, h.takes, !h.gives, h.throws⟩ _ H6 ⟨tk, th, hp66, (TK.same s6).sq htk1, (TK.same s6).sq hth1⟩ ⟨O.sd, O.tl, O.tk, O.hl, O.hn, O.hw⟩ rfl rfl (fun z => ?_) (B1.same s6) (by omega) (k1.trans fun x o _ _ e => s6 _ _ e)
      have z1 : (!h.gives) = h.gives := congrArg Hl.gives z
      cases hg : h.gives <;> rw [hg] at z1 <;> cases z1
end
end Pf
set_option Elab.async false
set_option linter.all false
set_option maxRecDepth 100000
set_option maxHeartbeats 4000000
namespace Pf
open PySem L2
local macro_rules | `(tactic| walk_at "nz") => `(tactic| (show (_ : Int) ≠ 0; omega))
local macro_rules | `(tactic| walk_at "ne") => `(tactic| first | assumption | (apply Ne.symm; assumption))
local macro_rules | `(tactic| walk_at "hp") => `(tactic| first | assumption | exact upd_same | (refine upd_get ?_ ?_; walk_at "ne"; walk_at "hp"))
local macro_rules | `(tactic| walk_at "sd") => `(tactic| first
  | (with_reducible show (_ : Int) < _; omega)
  | (with_reducible show (_ : Int) ≤ _; omega)
  | (with_reducible show (_ : Nat) < _; omega)
  | (with_reducible show (_ : Nat) ≤ _; omega)
  | rfl
  | assumption
  | exact kV_int _
  | exact kV_str _
  | (show (_ : Int) ≠ 0; omega)
  | exact SqL.of (by walk_at "hp")
  | exact ⟨_, SqL.of (by walk_at "hp")⟩
  | exact ⟨_, SqT.of (by walk_at "hp")⟩
  | exact ⟨_, (by assumption)⟩
  | exact SqT.of (by walk_at "hp")
  | exact Rd.of (by walk_at "hp")
  | exact Or.inl (SqL.of (by walk_at "hp"))
  | exact Or.inr (SqT.of (by walk_at "hp"))
  | exact Or.inr (by assumption)
  | (walk_at "hp")
  | (exact Or.inl ⟨rfl, _, SqL.of (by walk_at "hp")⟩)
  | (exact Or.inl ⟨by omega, by omega⟩)
  | (exact Or.inr ⟨by omega, by omega⟩)
  | (refine ⟨?_, ?_, ?_⟩ <;> omega)
  | omega
  | (exact small_le (by first | omega | (simp only [List.length_cons, List.length_nil]; omega)))
  | (exact small_lt (by first | omega | (simp only [List.length_cons, List.length_nil]; omega)))
  | exact Nat.le_of_ble_eq_true rfl
  | exact ⟨_, rfl⟩
  | decide)
local macro_rules | `(tactic| walk_at "st") => `(tactic| first
  | with_reducible refine sq_seq ?_
  | apply Exists.intro
  | (refine And.intro ?_ ?_; (walk_at "sd")))
local macro_rules | `(tactic| walk_at "go") => `(tactic| repeat (walk_at "st"))
section
variable {P : Program} {w : World} {K : PySem.W.Frag} {mg : Str → Option Value} {base : Heap} {a : Ad}
theorem pr_at2 (p : Pr) {s : Int} (hs : s = 0 ∨ s = 1) : atI [V.str p.near, .str p.far] s = some (.str (p.word s)) := by
  rcases hs with rfl | rfl <;> rfl
abbrev freshes : List Str := ["qt", "qu", "qv", "qw", "qx", "qy", "qz"]
theorem freshes_nd : freshes.Nodup := by decide +kernel
theorem freshes_ok : ∀ w ∈ freshes, IsName w := by
  have h : (freshes.all fun w => decide (1 ≤ w.length) && decide (w.length ≤ 8) && w.cps.toList.all fun c => decide (97 ≤ c) && decide (c ≤ 122)) = true := by decide +kernel
  exact fun w hw => isName_dec (List.all_eq_true.mp h w hw)
theorem fresh_of {ks : List Str} (h : ks.length ≤ 6) : ∃ f r, freshes.filter (fun w => decide (w ∉ ks)) = f :: r ∧ f ∉ ks ∧ IsName f := by
  cases e : freshes.filter (fun w => decide (w ∉ ks)) with
  | nil =>
    have h1 : ∀ w ∈ freshes, w ∈ ks := fun w hw => by
      by_cases z : w ∈ ks
      · exact z
      · have : w ∈ freshes.filter (fun w => decide (w ∉ ks)) := List.mem_filter.mpr ⟨hw, decide_eq_true z⟩
        rw [e] at this
        cases this
    have h2 := nodup_sub_len freshes_nd h1
    have h3 : freshes.length = 7 := rfl
    omega
  | cons f r =>
    have : f ∈ freshes.filter (fun w => decide (w ∉ ks)) := by rw [e]; exact List.mem_cons_self
    have := List.mem_filter.mp this
    exact ⟨f, r, rfl, of_decide_eq_true this.2, freshes_ok f this.1⟩
def spPairOth (K : PySem.W.Frag) : Sp := fun vs H Q _ => ∃ (b g l D F : Addr) (n : Int) (L : List (Addr × Pr)) (M : List (Addr × Hl)), vs = [.ref b, .ref D, .ref F] ∧ BoxAt H b g l n ∧ n ≤ 700000 ∧ D ≠ b ∧ D ≠ g ∧ F ≠ b ∧ F ≠ g ∧ PairsAt H D L ∧ HelpersAt K H F M ∧ Good (L.map (·.2)) ∧ GoodH (L.map (·.2)) (M.map (·.2)) ∧ 0 < L.length ∧
  ∀ (t D' F' : Addr) (L' : List (Addr × Pr)) (M' : List (Addr × Hl)) (H' : Hp), H' t = some (.tup [.ref D', .ref F']) → PairsAt H' D' L' → HelpersAt K H' F' M' → Oth (L.map (·.2)) (M.map (·.2)) (L'.map (·.2)) (M'.map (·.2)) → Keep2 b g H H' → Q (.ref t) H'
theorem ok__law_pair_otherwise (T : Txt K mg a) : FnOk P w K mg base CX0 3 a.f__law_pair_otherwise a.d__law_pair_otherwise ["_law_box_here", "_law_pairs_here", "_law_crew"] (spPairOth K) := by
  have G__law_take := ok__law_take (P := P) (w := w) (base := base) T
  have cl_Pacts := T.cl_Pacts
  have na_Pacts_kept_pairs := T.na_Pacts_kept_pairs
  have na_Pacts_kept_pacts := T.na_Pacts_kept_pacts
  refine T.F__law_pair_otherwise.ok sc__law_pair_otherwise (fun vs H Q E h => ?_) (fun cdv A outer s H vs Q E hr h => ?_)
  · obtain ⟨b, g, l, D, F, n, L, M, rfl, _⟩ := h
    rfl
  · obtain ⟨b, g, l, D, F, n, L, M, rfl, B, hn, nDb, nDg, nFb, nFg, PD, HF, G, GH, hL, q⟩ := h
    have lm : (L.map fun e => V.ref e.1).length = L.length := List.length_map _
    have gl := G.len
    have ghl := GH.len
    rw [List.length_map] at gl ghl
    have hls := PD.ls
    refine ⟨_, (pss_cons (ps_set (i := 3) sc__law_pair_otherwise.nd rfl (Or.inl rfl) (pe_call G__law_take (hr.mono (by decide)) rfl T.m__law_take T.F__law_take.kp T.b__law_take .nil pass0 (pa_cons (pv 0) (pa_cons (pe_callB call_lenK (by rfl) T.z_len PySem.boot_len (pa_cons (pv 1) pa_nil)) pa_nil))))
      (pss_cons (ps_set (i := 4) sc__law_pair_otherwise.nd rfl (Or.inr rfl) (pe_call G__law_take (hr.mono (by decide)) rfl T.m__law_take T.F__law_take.kp T.b__law_take .nil pass0 (pa_cons (pv 0) (pa_cons pe_int pa_nil))))
      (pss_cons (ps_asg (pe_ix ix_list (pv 1) (pv 3) (fun _ _ => rfl)) (pg_tup rfl (pgs_cons (pg_name (i := 5) sc__law_pair_otherwise.nd rfl (Or.inr rfl)) (pgs_cons (pg_name (i := 6) sc__law_pair_otherwise.nd rfl (Or.inr rfl)) (pgs_cons (pg_name (i := 7) sc__law_pair_otherwise.nd rfl (Or.inl rfl)) pgs_nil)))))
      (pss_cons (ps_if (pt_mid (PW.pt (pw_and (pt_cmpR op_eq (pv 4) pe_int (nomark _)) (pw_and1 (pt_cmpR op_gt (pv 3) pe_int (nomark _)))))) (pss_one (ps_ret (pe_tup (pa_cons (pe_op op_cat (pe_op op_cat (pe_slice sl_list (pv 1) po_none (po_some (pe_op op_sub (pv 3) pe_int))) (pe_lst (pa_cons (pe_ix ix_list (pv 1) (pv 3) (fun _ _ => rfl)) (pa_cons (pe_ix ix_list (pv 1) (pe_op op_sub (pv 3) pe_int) (fun _ _ => rfl)) pa_nil)))) (pe_slice sl_list (pv 1) (po_some (pe_op op_add (pv 3) pe_int)) po_none)) (pa_cons (pv 2) pa_nil))))) pss_nil)
      (pss_cons (ps_if (pt_mid (PW.pt (pw_or (pt_cmpR op_eq (pv 4) pe_int (nomark _)) (pw_or1 (pt_cmpR op_eq (pv 4) pe_int (nomark _)))))) (pss_one (ps_ret (pe_tup (pa_cons (pe_op op_cat (pe_op op_cat (pe_slice sl_list (pv 1) po_none (po_some (pv 3))) (pe_lst (pa_cons (pe_tup (pa_cons (pv 5) (pa_cons (pv 6) (pa_cons (pe_not (pv 7)) pa_nil)))) pa_nil))) (pe_slice sl_list (pv 1) (po_some (pe_op op_add (pv 3) pe_int)) po_none)) (pa_cons (pv 2) pa_nil))))) pss_nil)
      (pss_cons (ps_set (i := 8) sc__law_pair_otherwise.nd rfl (Or.inr rfl) (pe_lc (own := [("_law_pair", 16)]) (g := gName 16) (tt := tYes) (te := (tOp (rIxT K) _ _)) rfl sc__law_pair_otherwise.nd (pi_list (pv 1)) (blkOk_by (own := [("_law_pair", 16)]) (N := n__law_pair_otherwise) (sc := defScope s__law_pair_otherwise) (by decide +kernel)) (fun _ _ _ _ _ => (pg_name (i := 16) sc__law_pair_otherwise.nd rfl (Or.inl rfl))) (fun _ _ _ _ _ => pts_nil) (fun _ _ _ _ _ => (pe_ix ix_tup (pv 16) (pe_op op_sub (pv 4) pe_int) (fun _ _ => rfl)))))
      (pss_cons (ps_set (i := 9) sc__law_pair_otherwise.nd rfl (Or.inr rfl) (pe_ix ix_list (pe_lc (own := [("_law_one", 17)]) (g := gName 17) (tt := (tTest (tOp (rIn K true) _ _))) rfl sc__law_pair_otherwise.nd (pi_list (by exact (pe_lst (pa_cons pe_str (pa_cons pe_str (pa_cons pe_str (pa_cons pe_str (pa_cons pe_str (pa_cons pe_str (pa_cons pe_str pa_nil)))))))))) (blkOk_by (own := [("_law_one", 17)]) (N := n__law_pair_otherwise) (sc := defScope s__law_pair_otherwise) (by decide +kernel)) (fun _ _ _ _ _ => (pg_name (i := 17) sc__law_pair_otherwise.nd rfl (Or.inl rfl))) (fun _ _ _ _ _ => (pts_one (pt_cmpR op_notIn_seq (pv 17) (pv 8) (by rfl)))) (fun _ _ _ _ _ => (pv 17))) pe_int (fun _ _ => rfl)))
      (pss_cons (ps_set (i := 10) sc__law_pair_otherwise.nd rfl (Or.inl rfl) (pe_lst pa_nil))
      (pss_cons (ps_stop (ps_for PassesOwn.never rfl (pi_wait (pi_list (pv 2))) (pg_tup rfl (pgs_cons (pg_name (i := 11) sc__law_pair_otherwise.nd rfl (Or.inl rfl)) (pgs_cons (pg_name (i := 12) sc__law_pair_otherwise.nd rfl (Or.inr rfl)) (pgs_cons (pg_name (i := 13) sc__law_pair_otherwise.nd rfl (Or.inl rfl)) (pgs_cons (pg_name (i := 14) sc__law_pair_otherwise.nd rfl (Or.inl rfl)) (pgs_cons (pg_name (i := 15) sc__law_pair_otherwise.nd rfl (Or.inl rfl)) pgs_nil)))))) (pss_mid (ps_if (pt_cmpR op_eq (pv 12) (pe_op op_sub (pv 4) pe_int) (nomark _)) (pss_one (ps_set (i := 15) sc__law_pair_otherwise.nd rfl (Or.inl rfl) (pe_callTy call_tuple_of (by rfl) T.z_tuple (by decide +kernel) (pa_cons (pe_lc (own := [("_law_one", 17)]) (g := gName 17) (tt := tYes) (te := (tIf (tTest (tOp _ _ (tOp (rIxL K) _ _))) _ _)) rfl sc__law_pair_otherwise.nd (pi_tup (pv 15)) (blkOk_by (own := [("_law_one", 17)]) (N := n__law_pair_otherwise) (sc := defScope s__law_pair_otherwise) (by decide +kernel)) (fun _ _ _ _ _ => (pg_name (i := 17) sc__law_pair_otherwise.nd rfl (Or.inl rfl))) (fun _ _ _ _ _ => pts_nil) (fun _ _ _ _ _ => (pe_ifExp (pt_cmpR op_eq (pv 17) (pe_ix ix_list (pe_lst (pa_cons (pv 5) (pa_cons (pv 6) pa_nil))) (pv 12) (fun _ _ => rfl)) (nomark _)) (pv 9) (pv 17)))) pa_nil)))) pss_nil)
      (pss_one (ps_expr (pe_bm PySem.F.plainAttrs_list PySem.F.slot_list_append PySem.F.type_list_append mt_append (pv 10) (pa_cons (pe_tup (pa_cons (pv 11) (pa_cons (pv 12) (pa_cons (pv 13) (pa_cons (pv 14) (pa_cons (pv 15) pa_nil)))))) pa_nil)))))))
      (pss_one (ps_ret (pe_tup (pa_cons (pe_op op_cat (pe_op op_cat (pe_slice sl_list (pv 1) po_none (po_some (pv 3))) (pe_lst (pa_cons (pe_ix ix_list (pe_lst (pa_cons (pe_tup (pa_cons (pv 9) (pa_cons (pv 6) (pa_cons (pv 7) pa_nil)))) (pa_cons (pe_tup (pa_cons (pv 5) (pa_cons (pv 9) (pa_cons (pv 7) pa_nil)))) pa_nil))) (pe_op op_sub (pv 4) pe_int) (fun _ _ => rfl)) pa_nil))) (pe_slice sl_list (pv 1) (po_some (pe_op op_add (pv 3) pe_int)) po_none)) (pa_cons (pv 10) pa_nil)))))))))))))), ?_⟩
    walk_at "go"
    intro r1 H1 r10 r11 B1 k1
    rw [lm] at r11
    walk_at "go"
    intro r2 H2 r20 r21 B2 k2
    have k12 := k1.trans k2
    have PD2 : PairsAt H2 D L := PD.keep (fun o e => k12 _ _ nDb nDg e) (B.tups k12)
    have HF2 : HelpersAt K H2 F M := HF.tk (B.tk k12) (fun o e => k12 _ _ nFb nFg e)
    obtain ⟨e1, hat1, hi1⟩ := pairs_at (L := L) r10 r11
    have hls2 := PD2.ls
    have hlF2 := HF2.ls
    have hp1 : H2 e1.1 = some (.tup [.str e1.2.near, .str e1.2.far, .bl e1.2.laden]) := PD2.at_ e1 (List.mem_of_getElem? hi1)
    have hi1p : (L.map (·.2))[r1.toNat]? = some e1.2 := by rw [List.getElem?_map, hi1] <;> rfl
    walk_at "go"
    refine midT_of (fun c H3 => H3 = H2 ∧ (c = true → r2 = 0 ∧ 0 < r1) ∧ (c = false → ¬ (r2 = 0 ∧ 0 < r1))) ?_ ?_
    · walk_at "go"
      refine ifD (fun c1 => ?_) (fun c1 => ?_)
      · have c1 := V.int.inj c1
        walk_at "go"
        exact wait ⟨rfl, fun z => ⟨c1, of_decide_eq_true z⟩, fun z w => absurd w.2 (of_decide_eq_false z)⟩
      · exact wait ⟨rfl, (fun z => nomatch z), fun _ w => c1 (congrArg V.int w.1)⟩
    rintro c H3 ⟨rfl, hc, hc'⟩
    refine ifB (fun e => ?_) (fun e => ?_)
    · have hc := hc e
      obtain ⟨e0, hat0, hi0⟩ := pairs_at (L := L) (r := r1 - 1) (by omega) (by omega)
      have en : (r1 - 1).toNat + 1 = r1.toNat := by omega
      obtain ⟨i0, ei0⟩ : ∃ i0 : Nat, i0 = (r1 - 1).toNat := ⟨_, rfl⟩
      have e2 : (r1 + 1).toNat = i0 + 2 := by omega
      have hi0p : (L.map (·.2))[i0]? = some e0.2 := by rw [List.getElem?_map, ei0, hi0] <;> rfl
      have hi2p : (L.map (·.2))[i0 + 1]? = some e1.2 := by rw [show i0 + 1 = r1.toNat by omega]; exact hi1p
      have PD3 := PD2
      have HF3 := HF2
      walk_at "go"
      rw [cutV_toI _ (show 0 ≤ r1 - 1 by omega), ← ei0]
      intro p4 hp4
      obtain ⟨H4, e4⟩ : ∃ H4, H4 = upd H3 p4 (.lst ((L.map fun e => V.ref e.1).take i0)) := ⟨_, rfl⟩
      have s4 : Same H3 H4 := by rw [e4]; exact Same.upd_new hp4
      have h4 : H4 p4 = some (.lst ((L.map fun e => V.ref e.1).take i0)) := by rw [e4, upd_same]
      rw [← e4]
      have PD4 := PD3.same s4
      have HF4 := HF3.same s4
      have hls4 := PD4.ls
      walk_at "go"
      intro p5 hp5
      obtain ⟨H5, e5⟩ : ∃ H5, H5 = upd H4 p5 (.lst [.ref e1.1, .ref e0.1]) := ⟨_, rfl⟩
      have s5 : Same H4 H5 := by rw [e5]; exact Same.upd_new hp5
      have h5 : H5 p5 = some (.lst [.ref e1.1, .ref e0.1]) := by rw [e5, upd_same]
      rw [← e5]
      have PD5 := PD4.same s5
      have HF5 := HF4.same s5
      have h45 := s5 _ _ h4
      have hz5 : ((L.map fun e => V.ref e.1).take i0).length + [V.ref e1.1, .ref e0.1].length ≤ sizeLine := small_le (by rw [List.length_take]; show _ + 2 ≤ _; omega)
      walk_at "go"
      intro p6 hp6
      obtain ⟨H6, e6⟩ : ∃ H6, H6 = upd H5 p6 (.lst ((L.map fun e => V.ref e.1).take i0 ++ [V.ref e1.1, .ref e0.1])) := ⟨_, rfl⟩
      have s6 : Same H5 H6 := by rw [e6]; exact Same.upd_new hp6
      have h6 : H6 p6 = some (.lst ((L.map fun e => V.ref e.1).take i0 ++ [V.ref e1.1, .ref e0.1])) := by rw [e6, upd_same]
      rw [← e6]
      have PD6 := PD5.same s6
      have HF6 := HF5.same s6
      have hls6 := PD6.ls
      walk_at "go"
      rw [cutV_fromI _ (show 0 ≤ r1 + 1 by omega), e2]
      intro p7 hp7
      obtain ⟨H7, e7⟩ : ∃ H7, H7 = upd H6 p7 (.lst ((L.map fun e => V.ref e.1).drop (i0 + 2))) := ⟨_, rfl⟩
      have s7 : Same H6 H7 := by rw [e7]; exact Same.upd_new hp7
      have h7 : H7 p7 = some (.lst ((L.map fun e => V.ref e.1).drop (i0 + 2))) := by rw [e7, upd_same]
      rw [← e7]
      have PD7 := PD6.same s7
      have HF7 := HF6.same s7
      have h67 := s7 _ _ h6
      have hz7 : ((L.map fun e => V.ref e.1).take i0 ++ [V.ref e1.1, .ref e0.1]).length + ((L.map fun e => V.ref e.1).drop (i0 + 2)).length ≤ sizeLine := small_le (by rw [List.length_append, List.length_take, List.length_drop]; show _ + 2 + _ ≤ _; omega)
      walk_at "go"
      intro p8 hp8
      obtain ⟨H8, e8⟩ : ∃ H8, H8 = upd H7 p8 (.lst ((L.map fun e => V.ref e.1).take i0 ++ [V.ref e1.1, .ref e0.1] ++ (L.map fun e => V.ref e.1).drop (i0 + 2))) := ⟨_, rfl⟩
      have s8 : Same H7 H8 := by rw [e8]; exact Same.upd_new hp8
      have h8 : H8 p8 = some (.lst ((L.map fun e => V.ref e.1).take i0 ++ [V.ref e1.1, .ref e0.1] ++ (L.map fun e => V.ref e.1).drop (i0 + 2))) := by rw [e8, upd_same]
      rw [← e8]
      have PD8 := PD7.same s8
      have HF8 := HF7.same s8
      walk_at "go"
      intro t ht
      have s9 : Same H8 (upd H8 t (.tup [.ref p8, .ref F])) := Same.upd_new ht
      refine q t p8 F (L.take i0 ++ [e1, e0] ++ L.drop (i0 + 2)) M _ upd_same ⟨?_, fun e he => ?_⟩ (HF8.same s9) ?_ (k12.trans fun x o _ _ e => s9 _ _ (s8 _ _ (s7 _ _ (s6 _ _ (s5 _ _ (s4 _ _ e))))))
      · rw [s9 _ _ h8, List.map_append, List.map_append, List.map_take, List.map_drop] <;> rfl
      · refine (PD8.same s9).at_ e ?_
        rcases List.mem_append.mp he with z | z
        · rcases List.mem_append.mp z with y | y
          · exact List.mem_of_mem_take y
          · rcases List.mem_cons.mp y with rfl | y
            · exact List.mem_of_getElem? hi1
            · rw [List.mem_singleton.mp y]
              exact List.mem_of_getElem? hi0
        · exact List.mem_of_mem_drop z
      · rw [List.map_append, List.map_append, List.map_take, List.map_drop]
        exact oth_pswap G GH hi0p hi2p
    have hc' := hc' e
    refine sq_seq (midT_of (fun c H4 => H4 = H3 ∧ (c = false → r2 = 1 ∨ r2 = 2)) ?_ ?_)
    · walk_at "go"
      refine ifD (fun c1 => ?_) (fun c1 => ?_)
      · exact wait ⟨rfl, fun z => nomatch z⟩
      · have c1 : ¬ r2 = 0 := fun z => c1 (congrArg V.int z)
        walk_at "go"
        exact wait ⟨rfl, fun z => by have := of_decide_eq_false z; have : ¬ r2 = 3 := fun z => this (congrArg V.int z); omega⟩
    rintro c H4 ⟨rfl, hc4⟩
    obtain ⟨i0, ei0⟩ : ∃ i0 : Nat, i0 = r1.toNat := ⟨_, rfl⟩
    have e2 : (r1 + 1).toNat = i0 + 1 := by omega
    rw [← ei0] at hi1p
    have PD4 := PD2
    have HF4 := HF2
    refine ifB (fun e => ?_) (fun e => ?_)
    · walk_at "go"
      rw [cutV_toI _ r10, ← ei0]
      intro p5 hp5
      obtain ⟨H5, e5⟩ : ∃ H5, H5 = upd H4 p5 (.lst ((L.map fun e => V.ref e.1).take i0)) := ⟨_, rfl⟩
      have s5 : Same H4 H5 := by rw [e5]; exact Same.upd_new hp5
      have h5 : H5 p5 = some (.lst ((L.map fun e => V.ref e.1).take i0)) := by rw [e5, upd_same]
      rw [← e5]
      have PD5 := PD4.same s5
      have HF5 := HF4.same s5
      have hls5 := PD5.ls
      walk_at "go"
      intro p6 hp6
      obtain ⟨H6, e6⟩ : ∃ H6, H6 = upd H5 p6 (.tup [.str e1.2.near, .str e1.2.far, .bl (!e1.2.laden)]) := ⟨_, rfl⟩
      have s6 : Same H5 H6 := by rw [e6]; exact Same.upd_new hp6
      have h6 : H6 p6 = some (.tup [.str e1.2.near, .str e1.2.far, .bl (!e1.2.laden)]) := by rw [e6, upd_same]
      rw [← e6]
      have PD6 := PD5.same s6
      have HF6 := HF5.same s6
      walk_at "go"
      intro p7 hp7
      obtain ⟨H7, e7⟩ : ∃ H7, H7 = upd H6 p7 (.lst [.ref p6]) := ⟨_, rfl⟩
      have s7 : Same H6 H7 := by rw [e7]; exact Same.upd_new hp7
      have h7 : H7 p7 = some (.lst [.ref p6]) := by rw [e7, upd_same]
      rw [← e7]
      have PD7 := PD6.same s7
      have HF7 := HF6.same s7
      have h57 := s7 _ _ (s6 _ _ h5)
      have hz7 : ((L.map fun e => V.ref e.1).take i0).length + [V.ref p6].length ≤ sizeLine := small_le (by rw [List.length_take]; show _ + 1 ≤ _; omega)
      walk_at "go"
      intro p8 hp8
      obtain ⟨H8, e8⟩ : ∃ H8, H8 = upd H7 p8 (.lst ((L.map fun e => V.ref e.1).take i0 ++ [V.ref p6])) := ⟨_, rfl⟩
      have s8 : Same H7 H8 := by rw [e8]; exact Same.upd_new hp8
      have h8 : H8 p8 = some (.lst ((L.map fun e => V.ref e.1).take i0 ++ [V.ref p6])) := by rw [e8, upd_same]
      rw [← e8]
      have PD8 := PD7.same s8
      have HF8 := HF7.same s8
      have hls8 := PD8.ls
      walk_at "go"
      rw [cutV_fromI _ (show 0 ≤ r1 + 1 by omega), e2]
      intro p9 hp9
      obtain ⟨H9, e9⟩ : ∃ H9, H9 = upd H8 p9 (.lst ((L.map fun e => V.ref e.1).drop (i0 + 1))) := ⟨_, rfl⟩
      have s9 : Same H8 H9 := by rw [e9]; exact Same.upd_new hp9
      have h9 : H9 p9 = some (.lst ((L.map fun e => V.ref e.1).drop (i0 + 1))) := by rw [e9, upd_same]
      rw [← e9]
      have PD9 := PD8.same s9
      have HF9 := HF8.same s9
      have h89 := s9 _ _ h8
      have hz9 : ((L.map fun e => V.ref e.1).take i0 ++ [V.ref p6]).length + ((L.map fun e => V.ref e.1).drop (i0 + 1)).length ≤ sizeLine := small_le (by rw [List.length_append, List.length_take, List.length_drop]; show _ + 1 + _ ≤ _; omega)
      walk_at "go"
      intro p10 hp10
      obtain ⟨H10, e10⟩ : ∃ H10, H10 = upd H9 p10 (.lst ((L.map fun e => V.ref e.1).take i0 ++ [V.ref p6] ++ (L.map fun e => V.ref e.1).drop (i0 + 1))) := ⟨_, rfl⟩
      have s10 : Same H9 H10 := by rw [e10]; exact Same.upd_new hp10
      have h10 : H10 p10 = some (.lst ((L.map fun e => V.ref e.1).take i0 ++ [V.ref p6] ++ (L.map fun e => V.ref e.1).drop (i0 + 1))) := by rw [e10, upd_same]
      rw [← e10]
      have PD10 := PD9.same s10
      have HF10 := HF9.same s10
      walk_at "go"
      intro t ht
      have s11 : Same H10 (upd H10 t (.tup [.ref p10, .ref F])) := Same.upd_new ht
      refine q t p10 F (L.take i0 ++ [(p6, ⟨e1.2.near, e1.2.far, !e1.2.laden⟩)] ++ L.drop (i0 + 1)) M _ upd_same ⟨?_, fun e he => ?_⟩ (HF10.same s11) ?_ (k12.trans fun x o _ _ e => s11 _ _ (s10 _ _ (s9 _ _ (s8 _ _ (s7 _ _ (s6 _ _ (s5 _ _ e)))))))
      · rw [s11 _ _ h10, List.map_append, List.map_append, List.map_take, List.map_drop] <;> rfl
      · rcases List.mem_append.mp he with z | z
        · rcases List.mem_append.mp z with y | y
          · exact (PD10.same s11).at_ e (List.mem_of_mem_take y)
          · rw [List.mem_singleton.mp y]
            exact s11 _ _ (s10 _ _ (s9 _ _ (s8 _ _ (s7 _ _ h6))))
        · exact (PD10.same s11).at_ e (List.mem_of_mem_drop z)
      · rw [List.map_append, List.map_append, List.map_take, List.map_drop]
        exact oth_laden G GH hi1p
    have hc4 := hc4 e
    have hsd : r2 - 1 = 0 ∨ r2 - 1 = 1 := by omega
    walk_at "go"
    intro Kn hKn
    refine lcL (K := K) (a := D) (xs := L.map fun e => V.ref e.1) (fun i H' => H' Kn = some (.lst (((L.take i).map fun e => e.2.word (r2 - 1)).map V.str)) ∧ Same H4 H') ?_ ?_ ?_ ?_
    · exact ⟨upd_same, Same.upd_new hKn⟩
    · exact fun i H' _ h => SqL.of (h.2 _ _ hls2)
    · rintro i y H' hi ⟨g1, g2⟩
      rw [List.getElem?_map] at hi
      obtain ⟨e, he, rfl⟩ := Option.map_eq_some_iff.mp hi
      have hp : H' e.1 = _ := g2 _ _ (PD4.at_ e (List.mem_of_getElem? he))
      have hlt := (List.getElem?_eq_some_iff.mp he).1
      have hat := pr_at e.2 hsd
      refine ⟨rfl, ?_⟩
      walk_at "go"
      refine ⟨small_lt (by rw [List.length_map, List.length_map, List.length_take]; omega), wait ⟨?_, fun x o e => upd_get (ne_of_none e hKn) (g2 x o e)⟩⟩
      rw [upd_same, List.take_add_one, he, List.map_append, List.map_append] <;> rfl
    rintro H5 ⟨hK5, s5⟩
    rw [List.length_map, List.take_length] at hK5
    obtain ⟨ks, eks⟩ : ∃ ks : List Str, ks = L.map fun e => e.2.word (r2 - 1) := ⟨_, rfl⟩
    rw [← eks] at hK5
    have lks : ks.length ≤ 6 := by rw [eks, List.length_map]; exact gl
    have eks2 : ks = (L.map (·.2)).map (·.word (r2 - 1)) := by rw [eks, List.map_map] <;> rfl
    obtain ⟨f, fr, ef, hf1, hf2⟩ := fresh_of lks
    have PD5 := PD4.same s5
    have HF5 := HF4.same s5
    walk_at "go"
    intro p6 hp6
    obtain ⟨H6, e6⟩ : ∃ H6, H6 = upd H5 p6 (.lst (freshes.map V.str)) := ⟨_, rfl⟩
    have s6 : Same H5 H6 := by rw [e6]; exact Same.upd_new hp6
    have h6 : H6 p6 = some (.lst (freshes.map V.str)) := by rw [e6, upd_same]
    have hK6 := s6 _ _ hK5
    have PD6 := PD5.same s6
    have HF6 := HF5.same s6
    have e6' : upd H5 p6 (.lst [.str "qt", .str "qu", .str "qv", .str "qw", .str "qx", .str "qy", .str "qz"]) = H6 := e6.symm
    rw [e6']
    walk_at "go"
    intro Z hZ
    refine lcL (K := K) (a := p6) (xs := freshes.map V.str) (fun i H' => H' Z = some (.lst (((freshes.take i).filter fun w => decide (w ∉ ks)).map V.str)) ∧ Same H6 H') ?_ ?_ ?_ ?_
    · exact ⟨upd_same, Same.upd_new hZ⟩
    · exact fun i H' _ h => SqL.of (h.2 _ _ h6)
    · rintro i y H' hi ⟨g1, g2⟩
      rw [List.getElem?_map] at hi
      obtain ⟨w1, hw1, rfl⟩ := Option.map_eq_some_iff.mp hi
      have hK' := g2 _ _ hK6
      have fl := filt_len (fun w : Str => decide (w ∉ ks)) freshes i
      have fl7 : freshes.length = 7 := rfl
      refine ⟨rfl, ?_⟩
      refine ⟨_, rfl, _, rfl, Kn, _, rfl, .inl (SqL.of hK'), rfl, flat_strs1 _, ?_⟩
      rw [if_pos rfl, in_strs]
      by_cases z : w1 ∈ ks
      · rw [decide_eq_true z]
        refine ⟨_, rfl, ifF rfl (wait ⟨?_, g2⟩)⟩
        rw [take_filt_no hw1 (decide_eq_false (fun q => q z))]
        exact g1
      · rw [decide_eq_false z]
        refine ⟨_, rfl, ifT rfl ?_⟩
        walk_at "go"
        refine ⟨small_lt (by rw [List.length_map]; omega), wait ⟨?_, fun x o e => upd_get (ne_of_none e hZ) (g2 x o e)⟩⟩
        rw [upd_same, take_filt_yes hw1 (decide_eq_true z), List.map_append] <;> rfl
    rintro H7 ⟨hZ7, s7⟩
    rw [List.length_map, List.take_length, ef] at hZ7
    have PD7 := PD6.same s7
    have HF7 := HF6.same s7
    have hatf : atI ((f :: fr).map V.str) 0 = some (.str f) := by
      obtain ⟨v, a1, a2⟩ := atI_in (xs := (f :: fr).map V.str) (i := 0) (by omega) (by rw [List.length_map, List.length_cons]; omega)
      have a2 : some (V.str f) = some v := a2
      rw [a1, a2]
    walk_at "go"
    intro p8 hp8
    obtain ⟨H8, e8⟩ : ∃ H8, H8 = upd H7 p8 (.lst []) := ⟨_, rfl⟩
    have s8 : Same H7 H8 := by rw [e8]; exact Same.upd_new hp8
    have h8 : H8 p8 = some (.lst []) := by rw [e8, upd_same]
    rw [← e8]
    have PD8 := PD7.same s8
    have HF8 := HF7.same s8
    refine sq_seq (stop_in ?_)
    have hlF8 := HF8.ls
    walk_at "go"
    refine wait ?_
    have hf3 : f ∉ (L.map (·.2)).map (·.word (r2 - 1)) := by rw [← eks2]; exact hf1
    refine forL (K := K) (a := F) (xs := M.map fun e => V.ref e.1) (fun i σ H' => (∃ u11 u12 u13 u14 u15, σ = [some (.ref b), some (.ref D), some (.ref F), some (.int r1), some (.int r2), some (.str e1.2.near), some (.str e1.2.far), some (.bl e1.2.laden), some (.ref Kn), some (.str f), some (.ref p8), u11, u12, u13, u14, u15, none, none]) ∧
      ∃ M' : List (Addr × Hl), M'.length = i ∧ M'.map (·.2) = ((M.take i).map (·.2)).map (chg (r2 - 1) (e1.2.word (r2 - 1)) f) ∧ HelpersAt K H' p8 M' ∧ ∀ y o, y ≠ p8 → H8 y = some o → H' y = some o) ?_ ?_ ?_ ?_
    · exact ⟨⟨_, _, _, _, _, rfl⟩, [], rfl, rfl, ⟨h8, fun _ h => nomatch h⟩, fun _ _ _ e => e⟩
    · rintro i σ H' _ ⟨_, M', _, _, _, kk⟩
      exact SqL.of (kk _ _ (ne_of_none HF7.ls hp8) hlF8)
    · rintro i v σ H9 hi ⟨⟨u11, u12, u13, u14, u15, rfl⟩, M', lM', eM', HM', k9⟩
      rw [List.getElem?_map] at hi
      obtain ⟨e, he, rfl⟩ := Option.map_eq_some_iff.mp hi
      have hem := List.mem_of_getElem? he
      have hlt := (List.getElem?_eq_some_iff.mp he).1
      have tk9 : TK H8 H9 := TK.of fun t o e n => k9 _ _ (fun z => by
        rw [z, h8] at e
        cases e
        exact n True.intro) e
      obtain ⟨tk, th, he9, hk9, hh9⟩ := (HF8.at_ e hem).tk tk9
      have he9 : H9 e.1 = some (.tup [.str e.2.name, .int e.2.side, .ref tk, .bl e.2.gives, .ref th]) := he9
      have hO := GH.ok e.2 (List.mem_map.mpr ⟨e, hem, rfl⟩)
      have hO4 := hO.hl
      walk_at "go"
      refine mid_of (fun σ H' => ∃ th', σ = [some (.ref b), some (.ref D), some (.ref F), some (.int r1), some (.int r2), some (.str e1.2.near), some (.str e1.2.far), some (.bl e1.2.laden), some (.ref Kn), some (.str f), some (.ref p8), some (.str e.2.name), some (.int e.2.side), some (.ref tk), some (.bl e.2.gives), some (.ref th'), none, none] ∧ SqT K H' th' ((chg (r2 - 1) (e1.2.word (r2 - 1)) f e.2).throws.map V.str) ∧ Same H9 H') ?_ ?_
      · walk_at "go"
        refine ifD (fun c1 => ?_) (fun c1 => ?_)
        · have c1 : e.2.side = r2 - 1 := V.int.inj c1
          walk_at "go"
          intro W hW
          have hat2 : atI [V.str e1.2.near, .str e1.2.far] e.2.side = some (.str (e1.2.word (r2 - 1))) := by rw [c1]; exact pr_at2 e1.2 hsd
          refine lcT (K := K) (a := th) (xs := e.2.throws.map V.str) (fun j H' => H' W = some (.lst (((e.2.throws.take j).map fun w => if w = e1.2.word (r2 - 1) then f else w).map V.str)) ∧ Same H9 H') ?_ ?_ ?_ ?_
          · exact ⟨upd_same, Same.upd_new hW⟩
          · exact fun j H' _ h => (TK.same h.2).sq hh9
          · rintro j y Ha hj ⟨g1, g2⟩
            rw [List.getElem?_map] at hj
            obtain ⟨w1, hw1, rfl⟩ := Option.map_eq_some_iff.mp hj
            have hlw := (List.getElem?_eq_some_iff.mp hw1).1
            refine ⟨rfl, ?_⟩
            walk_at "go"
            intro pa hpa
            have sa : Same Ha (upd Ha pa (.lst [.str e1.2.near, .str e1.2.far])) := Same.upd_new hpa
            have g1a := sa _ _ g1
            walk_at "go"
            refine ifD (fun d1 => ?_) (fun d1 => ?_)
            · have d1 := V.str.inj d1
              walk_at "go"
              refine ⟨small_lt (by rw [List.length_map, List.length_map, List.length_take]; omega), wait ⟨?_, fun x o e => upd_get (ne_of_none e hW) (sa _ _ (g2 x o e))⟩⟩
              rw [upd_same, List.take_add_one, hw1, Option.toList_some, List.map_append, List.map_append, List.map_cons, if_pos d1] <;> rfl
            · have d1 : ¬ w1 = e1.2.word (r2 - 1) := fun z => d1 (congrArg V.str z)
              walk_at "go"
              refine ⟨small_lt (by rw [List.length_map, List.length_map, List.length_take]; omega), wait ⟨?_, fun x o e => upd_get (ne_of_none e hW) (sa _ _ (g2 x o e))⟩⟩
              rw [upd_same, List.take_add_one, hw1, Option.toList_some, List.map_append, List.map_append, List.map_cons, if_neg d1] <;> rfl
          · rintro Ha ⟨g1, g2⟩
            rw [List.length_map, List.take_length] at g1
            refine ⟨W, _, rfl, .inl ⟨SqL.of g1, fun t2 ht2 => ?_⟩⟩
            refine wait ⟨t2, rfl, ?_, g2.trans (Same.upd_new ht2)⟩
            unfold chg
            rw [if_pos c1]
            exact SqT.of upd_same
        · have c1 : ¬ e.2.side = r2 - 1 := fun z => c1 (congrArg V.int z)
          refine wait ⟨th, rfl, ?_, fun _ _ e => e⟩
          unfold chg
          rw [if_neg c1]
          exact hh9
      · rintro σ H10 ⟨th', rfl, hth', s10⟩
        have hp10 := s10 _ _ HM'.ls
        walk_at "go"
        intro p11 hp11
        obtain ⟨H11, e11⟩ : ∃ H11, H11 = upd H10 p11 (.tup [.str e.2.name, .int e.2.side, .ref tk, .bl e.2.gives, .ref th']) := ⟨_, rfl⟩
        have s11 : Same H10 H11 := by rw [e11]; exact Same.upd_new hp11
        have h11 : H11 p11 = some (.tup [.str e.2.name, .int e.2.side, .ref tk, .bl e.2.gives, .ref th']) := by rw [e11, upd_same]
        rw [← e11]
        have hp11' := s11 _ _ hp10
        have ec : (chg (r2 - 1) (e1.2.word (r2 - 1)) f e.2).name = e.2.name ∧ (chg (r2 - 1) (e1.2.word (r2 - 1)) f e.2).side = e.2.side ∧ (chg (r2 - 1) (e1.2.word (r2 - 1)) f e.2).takes = e.2.takes ∧ (chg (r2 - 1) (e1.2.word (r2 - 1)) f e.2).gives = e.2.gives := by
          unfold chg
          split <;> exact ⟨rfl, rfl, rfl, rfl⟩
        walk_at "go"
        have tkL : TK H11 (upd H11 p8 (.lst ((M'.map fun e => V.ref e.1) ++ [.ref p11]))) := TK.lst hp11'
        have n811 : p11 ≠ p8 := ne_of h11 hp11' (by intro z; cases z)
        refine ⟨small_lt (by rw [List.length_map]; omega), wait ⟨⟨_, _, _, _, _, rfl⟩, M' ++ [(p11, chg (r2 - 1) (e1.2.word (r2 - 1)) f e.2)], by rw [List.length_append, lM'] <;> rfl, ?_, ⟨?_, fun d hd => ?_⟩, fun y o n e => upd_get n (s11 _ _ (s10 _ _ (k9 y o n e)))⟩⟩
        · rw [List.map_append, eM', List.take_add_one, he, Option.toList_some, List.map_append, List.map_append] <;> rfl
        · rw [upd_same, List.map_append] <;> rfl
        · rcases List.mem_append.mp hd with z | z
          · exact ((HM'.at_ d z).tk (TK.same (s10.trans s11))).tk tkL
          · rw [List.mem_singleton.mp z]
            refine ⟨tk, th', ?_, ?_, ?_⟩
            · show upd H11 p8 (.lst ((M'.map fun e => V.ref e.1) ++ [.ref p11])) p11 = some (.tup [.str (chg (r2 - 1) (e1.2.word (r2 - 1)) f e.2).name, .int (chg (r2 - 1) (e1.2.word (r2 - 1)) f e.2).side, .ref tk, .bl (chg (r2 - 1) (e1.2.word (r2 - 1)) f e.2).gives, .ref th'])
              rw [ec.1, ec.2.1, ec.2.2.2]
              exact upd_get n811 h11
            · show SqT K _ tk ((chg (r2 - 1) (e1.2.word (r2 - 1)) f e.2).takes.map V.str)
              rw [ec.2.2.1]
              exact tkL.sq ((TK.same (s10.trans s11)).sq hk9)
            · exact tkL.sq ((TK.same s11).sq hth')
    · rintro σ H9 ⟨⟨u11, u12, u13, u14, u15, rfl⟩, M', lM', eM', HM', k9⟩
      rw [List.length_map, List.take_length] at eM'
      have tk9 : TK H8 H9 := TK.of fun t o e n => k9 _ _ (fun z => by
        rw [z, h8] at e
        cases e
        exact n True.intro) e
      have PD9 : PairsAt H9 D L := PD8.keep (fun o e => k9 _ _ (ne_of_none PD7.ls hp8) e) fun t ys e => (tk9 t).1 ys e
      have hls9 := PD9.ls
      have HM9 := HM'
      walk_at "go"
      rw [cutV_toI _ r10, ← ei0]
      intro p10 hp10
      obtain ⟨H10, e10⟩ : ∃ H10, H10 = upd H9 p10 (.lst ((L.map fun e => V.ref e.1).take i0)) := ⟨_, rfl⟩
      have s10 : Same H9 H10 := by rw [e10]; exact Same.upd_new hp10
      have h10 : H10 p10 = some (.lst ((L.map fun e => V.ref e.1).take i0)) := by rw [e10, upd_same]
      rw [← e10]
      have PD10 := PD9.same s10
      have HM10 := HM9.same s10
      walk_at "go"
      intro p11 hp11
      obtain ⟨H11, e11⟩ : ∃ H11, H11 = upd H10 p11 (.tup [.str f, .str e1.2.far, .bl e1.2.laden]) := ⟨_, rfl⟩
      have s11 : Same H10 H11 := by rw [e11]; exact Same.upd_new hp11
      have h11 : H11 p11 = some (.tup [.str f, .str e1.2.far, .bl e1.2.laden]) := by rw [e11, upd_same]
      rw [← e11]
      have PD11 := PD10.same s11
      have HM11 := HM10.same s11
      walk_at "go"
      intro p12 hp12
      obtain ⟨H12, e12⟩ : ∃ H12, H12 = upd H11 p12 (.tup [.str e1.2.near, .str f, .bl e1.2.laden]) := ⟨_, rfl⟩
      have s12 : Same H11 H12 := by rw [e12]; exact Same.upd_new hp12
      have h12 : H12 p12 = some (.tup [.str e1.2.near, .str f, .bl e1.2.laden]) := by rw [e12, upd_same]
      rw [← e12]
      have PD12 := PD11.same s12
      have HM12 := HM11.same s12
      walk_at "go"
      intro p13 hp13
      obtain ⟨H13, e13⟩ : ∃ H13, H13 = upd H12 p13 (.lst [.ref p11, .ref p12]) := ⟨_, rfl⟩
      have s13 : Same H12 H13 := by rw [e13]; exact Same.upd_new hp13
      have h13 : H13 p13 = some (.lst [.ref p11, .ref p12]) := by rw [e13, upd_same]
      rw [← e13]
      have PD13 := PD12.same s13
      have HM13 := HM12.same s13
      obtain ⟨pm, hatm, hpm⟩ : ∃ pm, atI [V.ref p11, .ref p12] (r2 - 1) = some (.ref pm) ∧ PrAt H13 (pm, e1.2.put (r2 - 1) f) := by
        rcases hc4 with z | z
        · subst z
          exact ⟨p11, rfl, s13 _ _ (s12 _ _ h11)⟩
        · subst z
          exact ⟨p12, rfl, s13 _ _ h12⟩
      walk_at "go"
      intro p14 hp14
      obtain ⟨H14, e14⟩ : ∃ H14, H14 = upd H13 p14 (.lst [.ref pm]) := ⟨_, rfl⟩
      have s14 : Same H13 H14 := by rw [e14]; exact Same.upd_new hp14
      have h14 : H14 p14 = some (.lst [.ref pm]) := by rw [e14, upd_same]
      rw [← e14]
      have PD14 := PD13.same s14
      have HM14 := HM13.same s14
      have h1014 := s14 _ _ (s13 _ _ (s12 _ _ (s11 _ _ h10)))
      have hz14 : ((L.map fun e => V.ref e.1).take i0).length + [V.ref pm].length ≤ sizeLine := small_le (by rw [List.length_take]; show _ + 1 ≤ _; omega)
      walk_at "go"
      intro p15 hp15
      obtain ⟨H15, e15⟩ : ∃ H15, H15 = upd H14 p15 (.lst ((L.map fun e => V.ref e.1).take i0 ++ [V.ref pm])) := ⟨_, rfl⟩
      have s15 : Same H14 H15 := by rw [e15]; exact Same.upd_new hp15
      have h15 : H15 p15 = some (.lst ((L.map fun e => V.ref e.1).take i0 ++ [V.ref pm])) := by rw [e15, upd_same]
      rw [← e15]
      have PD15 := PD14.same s15
      have HM15 := HM14.same s15
      have hls15 := PD15.ls
      walk_at "go"
      rw [cutV_fromI _ (show 0 ≤ r1 + 1 by omega), e2]
      intro p16 hp16
      obtain ⟨H16, e16⟩ : ∃ H16, H16 = upd H15 p16 (.lst ((L.map fun e => V.ref e.1).drop (i0 + 1))) := ⟨_, rfl⟩
      have s16 : Same H15 H16 := by rw [e16]; exact Same.upd_new hp16
      have h16 : H16 p16 = some (.lst ((L.map fun e => V.ref e.1).drop (i0 + 1))) := by rw [e16, upd_same]
      rw [← e16]
      have PD16 := PD15.same s16
      have HM16 := HM15.same s16
      have h1516 := s16 _ _ h15
      have hz16 : ((L.map fun e => V.ref e.1).take i0 ++ [V.ref pm]).length + ((L.map fun e => V.ref e.1).drop (i0 + 1)).length ≤ sizeLine := small_le (by rw [List.length_append, List.length_take, List.length_drop]; show _ + 1 + _ ≤ _; omega)
      walk_at "go"
      intro p17 hp17
      obtain ⟨H17, e17⟩ : ∃ H17, H17 = upd H16 p17 (.lst ((L.map fun e => V.ref e.1).take i0 ++ [V.ref pm] ++ (L.map fun e => V.ref e.1).drop (i0 + 1))) := ⟨_, rfl⟩
      have s17 : Same H16 H17 := by rw [e17]; exact Same.upd_new hp17
      have h17 : H17 p17 = some (.lst ((L.map fun e => V.ref e.1).take i0 ++ [V.ref pm] ++ (L.map fun e => V.ref e.1).drop (i0 + 1))) := by rw [e17, upd_same]
      rw [← e17]
      have PD17 := PD16.same s17
      have HM17 := HM16.same s17
      walk_at "go"
      intro t ht
      have s18 : Same H17 (upd H17 t (.tup [.ref p17, .ref p8])) := Same.upd_new ht
      have s918 : Same H9 (upd H17 t (.tup [.ref p17, .ref p8])) := (((s10.trans s11).trans (s12.trans s13)).trans ((s14.trans s15).trans (s16.trans s17))).trans s18
      refine q t p17 p8 (L.take i0 ++ [(pm, e1.2.put (r2 - 1) f)] ++ L.drop (i0 + 1)) M' _ upd_same ⟨?_, fun e he => ?_⟩ (HM17.same s18) ?_ ?_
      · rw [s18 _ _ h17, List.map_append, List.map_append, List.map_take, List.map_drop] <;> rfl
      · rcases List.mem_append.mp he with z | z
        · rcases List.mem_append.mp z with y | y
          · exact (PD17.same s18).at_ e (List.mem_of_mem_take y)
          · rw [List.mem_singleton.mp y]
            exact s18 _ _ (s17 _ _ (s16 _ _ (s15 _ _ (s14 _ _ hpm))))
        · exact (PD17.same s18).at_ e (List.mem_of_mem_drop z)
      · rw [List.map_append, List.map_append, List.map_take, List.map_drop, eM']
        exact oth_word G GH hi1p hsd hf3 hf2
      · refine k12.trans fun x o a1 a2 ex => s918 _ _ ?_
        have e7 := s7 _ _ (s6 _ _ (s5 _ _ ex))
        exact k9 _ _ (ne_of_none e7 hp8) (s8 _ _ e7)
end
end Pf
set_option Elab.async false
set_option linter.all false
set_option maxRecDepth 100000
set_option maxHeartbeats 4000000
namespace Pf
open PySem L2
local macro_rules | `(tactic| walk_at "nz") => `(tactic| (show (_ : Int) ≠ 0; omega))
local macro_rules | `(tactic| walk_at "ne") => `(tactic| first | assumption | (apply Ne.symm; assumption))
local macro_rules | `(tactic| walk_at "hp") => `(tactic| first | assumption | exact upd_same | (refine upd_get ?_ ?_; walk_at "ne"; walk_at "hp"))
local macro_rules | `(tactic| walk_at "sd") => `(tactic| first
  | (with_reducible show (_ : Int) < _; omega)
  | (with_reducible show (_ : Int) ≤ _; omega)
  | (with_reducible show (_ : Nat) < _; omega)
  | (with_reducible show (_ : Nat) ≤ _; omega)
  | rfl
  | assumption
  | exact kV_int _
  | exact kV_str _
  | (show (_ : Int) ≠ 0; omega)
  | exact SqL.of (by walk_at "hp")
  | exact ⟨_, SqL.of (by walk_at "hp")⟩
  | exact ⟨_, SqT.of (by walk_at "hp")⟩
  | exact ⟨_, (by assumption)⟩
  | exact SqT.of (by walk_at "hp")
  | exact Rd.of (by walk_at "hp")
  | exact Or.inl (SqL.of (by walk_at "hp"))
  | exact Or.inr (SqT.of (by walk_at "hp"))
  | exact Or.inr (by assumption)
  | (walk_at "hp")
  | (exact Or.inl ⟨rfl, _, SqL.of (by walk_at "hp")⟩)
  | (exact Or.inl ⟨by omega, by omega⟩)
  | (exact Or.inr ⟨by omega, by omega⟩)
  | (refine ⟨?_, ?_, ?_⟩ <;> omega)
  | omega
  | (exact small_le (by first | omega | (simp only [List.length_cons, List.length_nil]; omega)))
  | (exact small_lt (by first | omega | (simp only [List.length_cons, List.length_nil]; omega)))
  | exact Nat.le_of_ble_eq_true rfl
  | exact ⟨_, rfl⟩
  | decide)
local macro_rules | `(tactic| walk_at "st") => `(tactic| first
  | with_reducible refine sq_seq ?_
  | apply Exists.intro
  | (refine And.intro ?_ ?_; (walk_at "sd")))
local macro_rules | `(tactic| walk_at "go") => `(tactic| repeat (walk_at "st"))
section
variable {P : Program} {w : World} {K : PySem.W.Frag} {mg : Str → Option Value} {base : Heap} {a : Ad}
def spOth (K : PySem.W.Frag) : Sp := fun vs H Q _ => ∃ (b g l D F : Addr) (n : Int) (L : List (Addr × Pr)) (M : List (Addr × Hl)), vs = [.ref b, .ref D, .ref F] ∧ BoxAt H b g l n ∧ n ≤ 600000 ∧ D ≠ b ∧ D ≠ g ∧ F ≠ b ∧ F ≠ g ∧ PairsAt H D L ∧ HelpersAt K H F M ∧ Good (L.map (·.2)) ∧ GoodH (L.map (·.2)) (M.map (·.2)) ∧
  ∀ (t D' F' : Addr) (L' : List (Addr × Pr)) (M' : List (Addr × Hl)) (H' : Hp), H' t = some (.tup [.ref D', .ref F']) → PairsAt H' D' L' → HelpersAt K H' F' M' → Oth (L.map (·.2)) (M.map (·.2)) (L'.map (·.2)) (M'.map (·.2)) → Keep2 b g H H' → Q (.ref t) H'
theorem ok__law_otherwise (T : Txt K mg a) : FnOk P w K mg base CX0 4 a.f__law_otherwise a.d__law_otherwise ["_law_box_here", "_law_pairs_here", "_law_crew"] (spOth K) := by
  have G__law_take := ok__law_take (P := P) (w := w) (base := base) T
  have G__law_pair_otherwise := ok__law_pair_otherwise (P := P) (w := w) (base := base) T
  have G__law_row_otherwise := ok__law_row_otherwise (P := P) (w := w) (base := base) T
  refine T.F__law_otherwise.ok sc__law_otherwise (fun vs H Q E h => ?_) (fun cdv A outer s H vs Q E hr h => ?_)
  · obtain ⟨b, g, l, D, F, n, L, M, rfl, _⟩ := h
    rfl
  · obtain ⟨b, g, l, D, F, n, L, M, rfl, B, hn, nDb, nDg, nFb, nFg, PD, HF, G, GH, q⟩ := h
    have lm : (L.map fun e => V.ref e.1).length = L.length := List.length_map _
    have lM : (M.map fun e => V.ref e.1).length = M.length := List.length_map _
    have gl := G.len
    have ghl := GH.len
    rw [List.length_map] at gl ghl
    refine ⟨_, (pss_cons (ps_set (i := 3) sc__law_otherwise.nd rfl (Or.inl rfl) (pe_call G__law_take (hr.mono (by decide)) rfl T.m__law_take T.F__law_take.kp T.b__law_take .nil pass0 (pa_cons (pv 0) (pa_cons pe_int pa_nil))))
      (pss_cons (ps_if (pt_mid (PW.pt (pw_and (pt_cmpR op_eq (pv 3) pe_int (nomark _)) (pw_and1 (pt_cmpR op_gt (pe_callB call_lenK (by rfl) T.z_len PySem.boot_len (pa_cons (pv 2) pa_nil)) pe_int (nomark _)))))) (pss_cons (ps_set (i := 4) sc__law_otherwise.nd rfl (Or.inl rfl) (pe_call G__law_take (hr.mono (by decide)) rfl T.m__law_take T.F__law_take.kp T.b__law_take .nil pass0 (pa_cons (pv 0) (pa_cons (pe_op op_sub (pe_callB call_lenK (by rfl) T.z_len PySem.boot_len (pa_cons (pv 2) pa_nil)) pe_int) pa_nil))))
      (pss_one (ps_ret (pe_tup (pa_cons (pv 1) (pa_cons (pe_op op_cat (pe_op op_cat (pe_slice sl_list (pv 2) po_none (po_some (pv 4))) (pe_lst (pa_cons (pe_ix ix_list (pv 2) (pe_op op_add (pv 4) pe_int) (fun _ _ => rfl)) (pa_cons (pe_ix ix_list (pv 2) (pv 4) (fun _ _ => rfl)) pa_nil)))) (pe_slice sl_list (pv 2) (po_some (pe_op op_add (pv 4) pe_int)) po_none)) pa_nil)))))) pss_nil)
      (pss_cons (ps_if (pt_mid (PW.pt (pw_and (pt_cmpR op_eq (pv 3) pe_int (nomark _)) (pw_and1 (pt_cmpR op_gt (pe_callB call_lenK (by rfl) T.z_len PySem.boot_len (pa_cons (pv 2) pa_nil)) pe_int (nomark _)))))) (pss_cons (ps_set (i := 4) sc__law_otherwise.nd rfl (Or.inl rfl) (pe_call G__law_take (hr.mono (by decide)) rfl T.m__law_take T.F__law_take.kp T.b__law_take .nil pass0 (pa_cons (pv 0) (pa_cons (pe_callB call_lenK (by rfl) T.z_len PySem.boot_len (pa_cons (pv 2) pa_nil)) pa_nil))))
      (pss_one (ps_ret (pe_tup (pa_cons (pv 1) (pa_cons (pe_op op_cat (pe_op op_cat (pe_slice sl_list (pv 2) po_none (po_some (pv 4))) (pe_lst (pa_cons (pe_call G__law_row_otherwise (hr.mono (by decide)) rfl T.m__law_row_otherwise T.F__law_row_otherwise.kp T.b__law_row_otherwise .nil pass0 (pa_cons (pv 0) (pa_cons (pe_ix ix_list (pv 2) (pv 4) (fun _ _ => rfl)) pa_nil))) pa_nil))) (pe_slice sl_list (pv 2) (po_some (pe_op op_add (pv 4) pe_int)) po_none)) pa_nil)))))) pss_nil)
      (pss_cons (ps_if (pt_mid (PW.pt (pw_and (pt_cmpR op_eq (pv 3) pe_int (nomark _)) (pw_and1 (pt_cmpR op_gt (pe_callB call_lenK (by rfl) T.z_len PySem.boot_len (pa_cons (pv 1) pa_nil)) pe_int (nomark _)))))) (pss_one (ps_ret (pe_call G__law_pair_otherwise (hr.mono (by decide)) rfl T.m__law_pair_otherwise T.F__law_pair_otherwise.kp T.b__law_pair_otherwise .nil pass0 (pa_cons (pv 0) (pa_cons (pv 1) (pa_cons (pv 2) pa_nil)))))) pss_nil)
      (pss_cons (ps_if (pt_cmpR op_gt (pe_callB call_lenK (by rfl) T.z_len PySem.boot_len (pa_cons (pv 2) pa_nil)) pe_int (nomark _)) (pss_one (ps_ret (pe_tup (pa_cons (pv 1) (pa_cons (pe_slice sl_list (pv 2) po_none (po_some (pe_un un_neg pe_int))) pa_nil))))) pss_nil)
      (pss_one (ps_ret (pe_tup (pa_cons (pv 1) (pa_cons (pe_lst (pa_cons (pe_tup (pa_cons pe_str (pa_cons pe_int (pa_cons (pe_tup pa_nil) (pa_cons pe_bl (pa_cons (pe_tup pa_nil) pa_nil)))))) pa_nil)) pa_nil)))))))))), ?_⟩
    walk_at "go"
    intro r1 H1 r10 r11 B1 k1
    have PD1 : PairsAt H1 D L := PD.keep (fun o e => k1 _ _ nDb nDg e) (B.tups k1)
    have HF1 : HelpersAt K H1 F M := HF.tk (B.tk k1) (fun o e => k1 _ _ nFb nFg e)
    have hls1 := PD1.ls
    have hlF1 := HF1.ls
    refine sq_seq (midT_of (fun c H2 => H2 = H1 ∧ (c = true → 1 < M.length)) ?_ ?_)
    · walk_at "go"
      refine ifD (fun c1 => ?_) (fun c1 => ?_)
      · walk_at "go"
        exact wait ⟨rfl, fun z => by have := of_decide_eq_true z; omega⟩
      · exact wait ⟨rfl, fun z => nomatch z⟩
    rintro c H2 ⟨rfl, hc⟩
    refine ifB (fun e => ?_) (fun e => ?_)
    · have hc := hc e
      walk_at "go"
      intro r3 H3 r30 r31 B3 k3
      rw [lM] at r31
      have k13 := k1.trans k3
      have PD3 : PairsAt H3 D L := PD.keep (fun o e => k13 _ _ nDb nDg e) (B.tups k13)
      have HF3 : HelpersAt K H3 F M := HF.tk (B.tk k13) (fun o e => k13 _ _ nFb nFg e)
      have hlF3 := HF3.ls
      obtain ⟨e0, hat0, hi0⟩ := helpers_at (M := M) (r := r3) r30 (by omega)
      obtain ⟨e1, hat1, hi1⟩ := helpers_at (M := M) (r := r3 + 1) (by omega) (by omega)
      obtain ⟨i0, ei0⟩ : ∃ i0 : Nat, i0 = r3.toNat := ⟨_, rfl⟩
      have e2 : (r3 + 2).toNat = i0 + 2 := by omega
      rw [← ei0] at hi0
      rw [show (r3 + 1).toNat = i0 + 1 by omega] at hi1
      have hi0p : (M.map (·.2))[i0]? = some e0.2 := by rw [List.getElem?_map, hi0] <;> rfl
      have hi1p : (M.map (·.2))[i0 + 1]? = some e1.2 := by rw [List.getElem?_map, hi1] <;> rfl
      walk_at "go"
      rw [cutV_toI _ r30, ← ei0]
      intro p4 hp4
      obtain ⟨H4, e4⟩ : ∃ H4, H4 = upd H3 p4 (.lst ((M.map fun e => V.ref e.1).take i0)) := ⟨_, rfl⟩
      have s4 : Same H3 H4 := by rw [e4]; exact Same.upd_new hp4
      have h4 : H4 p4 = some (.lst ((M.map fun e => V.ref e.1).take i0)) := by rw [e4, upd_same]
      rw [← e4]
      have PD4 := PD3.same s4
      have HF4 := HF3.same s4
      have hlF4 := HF4.ls
      walk_at "go"
      intro p5 hp5
      obtain ⟨H5, e5⟩ : ∃ H5, H5 = upd H4 p5 (.lst [.ref e1.1, .ref e0.1]) := ⟨_, rfl⟩
      have s5 : Same H4 H5 := by rw [e5]; exact Same.upd_new hp5
      have h5 : H5 p5 = some (.lst [.ref e1.1, .ref e0.1]) := by rw [e5, upd_same]
      rw [← e5]
      have PD5 := PD4.same s5
      have HF5 := HF4.same s5
      have h45 := s5 _ _ h4
      have hz5 : ((M.map fun e => V.ref e.1).take i0).length + [V.ref e1.1, .ref e0.1].length ≤ sizeLine := small_le (by rw [List.length_take]; show _ + 2 ≤ _; omega)
      walk_at "go"
      intro p6 hp6
      obtain ⟨H6, e6⟩ : ∃ H6, H6 = upd H5 p6 (.lst ((M.map fun e => V.ref e.1).take i0 ++ [V.ref e1.1, .ref e0.1])) := ⟨_, rfl⟩
      have s6 : Same H5 H6 := by rw [e6]; exact Same.upd_new hp6
      have h6 : H6 p6 = some (.lst ((M.map fun e => V.ref e.1).take i0 ++ [V.ref e1.1, .ref e0.1])) := by rw [e6, upd_same]
      rw [← e6]
      have PD6 := PD5.same s6
      have HF6 := HF5.same s6
      have hlF6 := HF6.ls
      walk_at "go"
      rw [cutV_fromI _ (show 0 ≤ r3 + 2 by omega), e2]
      intro p7 hp7
      obtain ⟨H7, e7⟩ : ∃ H7, H7 = upd H6 p7 (.lst ((M.map fun e => V.ref e.1).drop (i0 + 2))) := ⟨_, rfl⟩
      have s7 : Same H6 H7 := by rw [e7]; exact Same.upd_new hp7
      have h7 : H7 p7 = some (.lst ((M.map fun e => V.ref e.1).drop (i0 + 2))) := by rw [e7, upd_same]
      rw [← e7]
      have PD7 := PD6.same s7
      have HF7 := HF6.same s7
      have h67 := s7 _ _ h6
      have hz7 : ((M.map fun e => V.ref e.1).take i0 ++ [V.ref e1.1, .ref e0.1]).length + ((M.map fun e => V.ref e.1).drop (i0 + 2)).length ≤ sizeLine := small_le (by rw [List.length_append, List.length_take, List.length_drop]; show _ + 2 + _ ≤ _; omega)
      walk_at "go"
      intro p8 hp8
      obtain ⟨H8, e8⟩ : ∃ H8, H8 = upd H7 p8 (.lst ((M.map fun e => V.ref e.1).take i0 ++ [V.ref e1.1, .ref e0.1] ++ (M.map fun e => V.ref e.1).drop (i0 + 2))) := ⟨_, rfl⟩
      have s8 : Same H7 H8 := by rw [e8]; exact Same.upd_new hp8
      have h8 : H8 p8 = some (.lst ((M.map fun e => V.ref e.1).take i0 ++ [V.ref e1.1, .ref e0.1] ++ (M.map fun e => V.ref e.1).drop (i0 + 2))) := by rw [e8, upd_same]
      rw [← e8]
      have PD8 := PD7.same s8
      have HF8 := HF7.same s8
      walk_at "go"
      intro t ht
      have s9 : Same H8 (upd H8 t (.tup [.ref D, .ref p8])) := Same.upd_new ht
      refine q t D p8 L (M.take i0 ++ [e1, e0] ++ M.drop (i0 + 2)) _ upd_same (PD8.same s9) ⟨?_, fun e he => ?_⟩ ?_ (k13.trans fun x o _ _ e => s9 _ _ (s8 _ _ (s7 _ _ (s6 _ _ (s5 _ _ (s4 _ _ e))))))
      · rw [s9 _ _ h8, List.map_append, List.map_append, List.map_take, List.map_drop] <;> rfl
      · refine (HF8.same s9).at_ e ?_
        rcases List.mem_append.mp he with z | z
        · rcases List.mem_append.mp z with y | y
          · exact List.mem_of_mem_take y
          · rcases List.mem_cons.mp y with rfl | y
            · exact List.mem_of_getElem? hi1
            · rw [List.mem_singleton.mp y]
              exact List.mem_of_getElem? hi0
        · exact List.mem_of_mem_drop z
      · rw [List.map_append, List.map_append, List.map_take, List.map_drop]
        exact oth_swap G GH hi0p hi1p
    refine sq_seq (midT_of (fun c H3 => H3 = H2 ∧ (c = true → 0 < M.length)) ?_ ?_)
    · walk_at "go"
      refine ifD (fun c1 => ?_) (fun c1 => ?_)
      · walk_at "go"
        exact wait ⟨rfl, fun z => by have := of_decide_eq_true z; omega⟩
      · exact wait ⟨rfl, fun z => nomatch z⟩
    rintro c3 H3 ⟨rfl, hc3⟩
    refine ifB (fun e => ?_) (fun e => ?_)
    · have hc3 := hc3 e
      walk_at "go"
      intro r4 H4 r40 r41 B4 k4
      rw [lM] at r41
      have k14 := k1.trans k4
      have PD4 : PairsAt H4 D L := PD.keep (fun o e => k14 _ _ nDb nDg e) (B.tups k14)
      have HF4 : HelpersAt K H4 F M := HF.tk (B.tk k14) (fun o e => k14 _ _ nFb nFg e)
      have hlF4 := HF4.ls
      obtain ⟨e0, hat0, hi0⟩ := helpers_at (M := M) (r := r4) r40 r41
      obtain ⟨i0, ei0⟩ : ∃ i0 : Nat, i0 = r4.toNat := ⟨_, rfl⟩
      have e2 : (r4 + 1).toNat = i0 + 1 := by omega
      rw [← ei0] at hi0
      have hi0p : (M.map (·.2))[i0]? = some e0.2 := by rw [List.getElem?_map, hi0] <;> rfl
      have he0 := List.mem_of_getElem? hi0
      walk_at "go"
      rw [cutV_toI _ r40, ← ei0]
      intro p5 hp5
      obtain ⟨H5, e5⟩ : ∃ H5, H5 = upd H4 p5 (.lst ((M.map fun e => V.ref e.1).take i0)) := ⟨_, rfl⟩
      have s5 : Same H4 H5 := by rw [e5]; exact Same.upd_new hp5
      have h5 : H5 p5 = some (.lst ((M.map fun e => V.ref e.1).take i0)) := by rw [e5, upd_same]
      rw [← e5]
      have PD5 := PD4.same s5
      have HF5 := HF4.same s5
      have hlF5 := HF5.ls
      have B5 := B4.same s5
      have n5 := B4.fresh hp5
      have hat5 : HlAt K H5 (e0.1, e0.2) := HF5.at_ e0 he0
      have O := GH.ok e0.2 (List.mem_map.mpr ⟨e0, he0, rfl⟩)
      walk_at "go"
      intro t6 h6 n6 H6 hat6 O6 en6 es6 ne6 B6 hn6 k6
      have PD6 : PairsAt H6 D L := PD5.keep (fun o e => k6 _ _ nDb nDg e) (B5.tups k6)
      have HF6 : HelpersAt K H6 F M := HF5.tk (B5.tk k6) (fun o e => k6 _ _ nFb nFg e)
      have h56 := k6 _ _ n5.1 n5.2.1 h5
      walk_at "go"
      intro p7 hp7
      obtain ⟨H7, e7⟩ : ∃ H7, H7 = upd H6 p7 (.lst [.ref t6]) := ⟨_, rfl⟩
      have s7 : Same H6 H7 := by rw [e7]; exact Same.upd_new hp7
      have h7 : H7 p7 = some (.lst [.ref t6]) := by rw [e7, upd_same]
      rw [← e7]
      have PD7 := PD6.same s7
      have HF7 := HF6.same s7
      have h57 := s7 _ _ h56
      have hz7 : ((M.map fun e => V.ref e.1).take i0).length + [V.ref t6].length ≤ sizeLine := small_le (by rw [List.length_take]; show _ + 1 ≤ _; omega)
      walk_at "go"
      intro p8 hp8
      obtain ⟨H8, e8⟩ : ∃ H8, H8 = upd H7 p8 (.lst ((M.map fun e => V.ref e.1).take i0 ++ [V.ref t6])) := ⟨_, rfl⟩
      have s8 : Same H7 H8 := by rw [e8]; exact Same.upd_new hp8
      have h8 : H8 p8 = some (.lst ((M.map fun e => V.ref e.1).take i0 ++ [V.ref t6])) := by rw [e8, upd_same]
      rw [← e8]
      have PD8 := PD7.same s8
      have HF8 := HF7.same s8
      have hlF8 := HF8.ls
      walk_at "go"
      rw [cutV_fromI _ (show 0 ≤ r4 + 1 by omega), e2]
      intro p9 hp9
      obtain ⟨H9, e9⟩ : ∃ H9, H9 = upd H8 p9 (.lst ((M.map fun e => V.ref e.1).drop (i0 + 1))) := ⟨_, rfl⟩
      have s9 : Same H8 H9 := by rw [e9]; exact Same.upd_new hp9
      have h9 : H9 p9 = some (.lst ((M.map fun e => V.ref e.1).drop (i0 + 1))) := by rw [e9, upd_same]
      rw [← e9]
      have PD9 := PD8.same s9
      have HF9 := HF8.same s9
      have h89 := s9 _ _ h8
      have hz9 : ((M.map fun e => V.ref e.1).take i0 ++ [V.ref t6]).length + ((M.map fun e => V.ref e.1).drop (i0 + 1)).length ≤ sizeLine := small_le (by rw [List.length_append, List.length_take, List.length_drop]; show _ + 1 + _ ≤ _; omega)
      walk_at "go"
      intro p10 hp10
      obtain ⟨H10, e10⟩ : ∃ H10, H10 = upd H9 p10 (.lst ((M.map fun e => V.ref e.1).take i0 ++ [V.ref t6] ++ (M.map fun e => V.ref e.1).drop (i0 + 1))) := ⟨_, rfl⟩
      have s10 : Same H9 H10 := by rw [e10]; exact Same.upd_new hp10
      have h10 : H10 p10 = some (.lst ((M.map fun e => V.ref e.1).take i0 ++ [V.ref t6] ++ (M.map fun e => V.ref e.1).drop (i0 + 1))) := by rw [e10, upd_same]
      rw [← e10]
      have PD10 := PD9.same s10
      have HF10 := HF9.same s10
      walk_at "go"
      intro t ht
      have s11 : Same H10 (upd H10 t (.tup [.ref D, .ref p10])) := Same.upd_new ht
      have s611 : Same H6 (upd H10 t (.tup [.ref D, .ref p10])) := ((s7.trans s8).trans (s9.trans s10)).trans s11
      refine q t D p10 L (M.take i0 ++ [(t6, h6)] ++ M.drop (i0 + 1)) _ upd_same (PD10.same s11) ⟨?_, fun e he => ?_⟩ ?_ (k14.trans ?_)
      · rw [s11 _ _ h10, List.map_append, List.map_append, List.map_take, List.map_drop] <;> rfl
      · rcases List.mem_append.mp he with z | z
        · rcases List.mem_append.mp z with y | y
          · exact (HF10.same s11).at_ e (List.mem_of_mem_take y)
          · rw [List.mem_singleton.mp y]
            exact hat6.tk (TK.same s611)
        · exact (HF10.same s11).at_ e (List.mem_of_mem_drop z)
      · rw [List.map_append, List.map_append, List.map_take, List.map_drop]
        exact oth_row G GH hi0p en6 es6 O6 ne6
      · exact fun x o a1 a2 ex => s611 _ _ (k6 _ _ a1 a2 (s5 _ _ ex))
    refine sq_seq (midT_of (fun c H4 => H4 = H3 ∧ (c = true → 0 < L.length)) ?_ ?_)
    · walk_at "go"
      refine ifD (fun c1 => ?_) (fun c1 => ?_)
      · walk_at "go"
        exact wait ⟨rfl, fun z => by have := of_decide_eq_true z; omega⟩
      · exact wait ⟨rfl, fun z => nomatch z⟩
    rintro c4 H4 ⟨rfl, hc4⟩
    refine ifB (fun e => ?_) (fun e => ?_)
    · have hc4 := hc4 e
      walk_at "go"
      intro t D' F' L' M' H5 h5 PD5 HF5 O5 k5
      exact q t D' F' L' M' H5 h5 PD5 HF5 O5 (k1.trans k5)
    walk_at "go"
    have PD4 := PD1
    have HF4 := HF1
    refine ifD (fun c1 => ?_) (fun c1 => ?_)
    · walk_at "go"
      rw [cutV_last]
      intro p5 hp5
      obtain ⟨H5, e5⟩ : ∃ H5, H5 = upd H4 p5 (.lst (M.map fun e => V.ref e.1).dropLast) := ⟨_, rfl⟩
      have s5 : Same H4 H5 := by rw [e5]; exact Same.upd_new hp5
      have h5 : H5 p5 = some (.lst (M.map fun e => V.ref e.1).dropLast) := by rw [e5, upd_same]
      rw [← e5]
      have PD5 := PD4.same s5
      have HF5 := HF4.same s5
      walk_at "go"
      intro t ht
      have s6 : Same H5 (upd H5 t (.tup [.ref D, .ref p5])) := Same.upd_new ht
      refine q t D p5 L M.dropLast _ upd_same (PD5.same s6) ⟨?_, fun e he => (HF5.same s6).at_ e ((List.dropLast_sublist M).subset he)⟩ ?_ (k1.trans fun x o _ _ e => s6 _ _ (s5 _ _ e))
      · rw [s6 _ _ h5, List.map_dropLast]
      · rw [List.map_dropLast]
        exact oth_last G GH (fun z => by have := congrArg List.length z; rw [List.length_map] at this; have e0 : ([] : List Hl).length = 0 := rfl; omega)
    · have eM : M = [] := List.eq_nil_of_length_eq_zero (by omega)
      subst eM
      walk_at "go"
      intro p5 hp5
      obtain ⟨H5, e5⟩ : ∃ H5, H5 = upd H4 p5 (.tup []) := ⟨_, rfl⟩
      have s5 : Same H4 H5 := by rw [e5]; exact Same.upd_new hp5
      have h5 : H5 p5 = some (.tup []) := by rw [e5, upd_same]
      rw [← e5]
      have PD5 := PD4.same s5
      walk_at "go"
      intro p6 hp6
      obtain ⟨H6, e6⟩ : ∃ H6, H6 = upd H5 p6 (.tup []) := ⟨_, rfl⟩
      have s6 : Same H5 H6 := by rw [e6]; exact Same.upd_new hp6
      have h6 : H6 p6 = some (.tup []) := by rw [e6, upd_same]
      rw [← e6]
      have PD6 := PD5.same s6
      walk_at "go"
      intro p7 hp7
      obtain ⟨H7, e7⟩ : ∃ H7, H7 = upd H6 p7 (.tup [.str "q", .int 0, .ref p5, .bl true, .ref p6]) := ⟨_, rfl⟩
      have s7 : Same H6 H7 := by rw [e7]; exact Same.upd_new hp7
      have h7 : H7 p7 = some (.tup [.str "q", .int 0, .ref p5, .bl true, .ref p6]) := by rw [e7, upd_same]
      rw [← e7]
      have PD7 := PD6.same s7
      walk_at "go"
      intro p8 hp8
      obtain ⟨H8, e8⟩ : ∃ H8, H8 = upd H7 p8 (.lst [.ref p7]) := ⟨_, rfl⟩
      have s8 : Same H7 H8 := by rw [e8]; exact Same.upd_new hp8
      have h8 : H8 p8 = some (.lst [.ref p7]) := by rw [e8, upd_same]
      rw [← e8]
      have PD8 := PD7.same s8
      walk_at "go"
      intro t ht
      have s9 : Same H8 (upd H8 t (.tup [.ref D, .ref p8])) := Same.upd_new ht
      refine q t D p8 L [(p7, ⟨"q", 0, [], true, []⟩)] _ upd_same (PD8.same s9) ⟨s9 _ _ h8, fun e he => ?_⟩ ?_ (k1.trans fun x o _ _ e => s9 _ _ (s8 _ _ (s7 _ _ (s6 _ _ (s5 _ _ e)))))
      · rw [List.mem_singleton.mp he]
        exact ⟨p5, p6, s9 _ _ (s8 _ _ h7), SqT.of (s9 _ _ (s8 _ _ (s7 _ _ (s6 _ _ h5)))), SqT.of (s9 _ _ (s8 _ _ (s7 _ _ h6)))⟩
      · exact oth_one G
end
end Pf
set_option Elab.async false
set_option linter.all false
set_option maxRecDepth 100000
set_option maxHeartbeats 4000000
namespace Pf
open PySem L2
local macro_rules | `(tactic| walk_at "nz") => `(tactic| (show (_ : Int) ≠ 0; omega))
local macro_rules | `(tactic| walk_at "ne") => `(tactic| first | assumption | (apply Ne.symm; assumption))
local macro_rules | `(tactic| walk_at "hp") => `(tactic| first | assumption | exact upd_same | (refine upd_get ?_ ?_; walk_at "ne"; walk_at "hp"))
local macro_rules | `(tactic| walk_at "sd") => `(tactic| first
  | (with_reducible show (_ : Int) < _; omega)
  | (with_reducible show (_ : Int) ≤ _; omega)
  | (with_reducible show (_ : Nat) < _; omega)
  | (with_reducible show (_ : Nat) ≤ _; omega)
  | rfl
  | assumption
  | exact kV_int _
  | exact kV_str _
  | (show (_ : Int) ≠ 0; omega)
  | exact SqL.of (by walk_at "hp")
  | exact ⟨_, SqL.of (by walk_at "hp")⟩
  | exact ⟨_, SqT.of (by walk_at "hp")⟩
  | exact ⟨_, (by assumption)⟩
  | exact SqT.of (by walk_at "hp")
  | exact Rd.of (by walk_at "hp")
  | exact Or.inl (SqL.of (by walk_at "hp"))
  | exact Or.inr (SqT.of (by walk_at "hp"))
  | exact Or.inr (by assumption)
  | (walk_at "hp")
  | (exact Or.inl ⟨rfl, _, SqL.of (by walk_at "hp")⟩)
  | (exact Or.inl ⟨by omega, by omega⟩)
  | (exact Or.inr ⟨by omega, by omega⟩)
  | (refine ⟨?_, ?_, ?_⟩ <;> omega)
  | omega
  | (exact small_le (by first | omega | (simp only [List.length_cons, List.length_nil]; omega)))
  | (exact small_lt (by first | omega | (simp only [List.length_cons, List.length_nil]; omega)))
  | exact Nat.le_of_ble_eq_true rfl
  | exact ⟨_, rfl⟩
  | decide)
local macro_rules | `(tactic| walk_at "st") => `(tactic| first
  | with_reducible refine sq_seq ?_
  | apply Exists.intro
  | (refine And.intro ?_ ?_; (walk_at "sd")))
local macro_rules | `(tactic| walk_at "go") => `(tactic| repeat (walk_at "st"))
section
variable {P : Program} {w : World} {K : PySem.W.Frag} {mg : Str → Option Value} {base : Heap} {a : Ad}
theorem PactsH.keep2 {K : PySem.W.Frag} {C : Addr} {H H' : Hp} {x kp kd b g l : Addr} {n : Int} {L : List (Addr × Pr)} {M : List (Addr × Hl)} (h : PactsH K C H x kp kd L M) (B : BoxAt H b g l n) (k : Keep2 b g H H') (n1 : kp ≠ b) (n2 : kp ≠ g) : PactsH K C H' x kp kd L M := by
  obtain ⟨⟨_, h1⟩, ⟨_, h2⟩, _⟩ := B.lists
  obtain ⟨dx, ho⟩ := h.pa.ob
  exact ⟨⟨⟨dx, k _ _ (ne_of ho h1 (by intro z; cases z)) (ne_of ho h2 (by intro z; cases z)) ho⟩, h.pa.pr.keep (fun o e => k _ _ n1 n2 e) (B.tups k), k _ _ (ne_of h.pa.pc h1 (by intro z; cases z)) (ne_of h.pa.pc h2 (by intro z; cases z)) h.pa.pc⟩, fun e he => (h.at_ e he).tk (B.tk k)⟩
/-- a list of no one's is changed -/
theorem PactsH.lst {K : PySem.W.Frag} {C : Addr} {H : Hp} {x kp kd p : Addr} {L : List (Addr × Pr)} {M : List (Addr × Hl)} {xs : List V} {o : HO} (h : PactsH K C H x kp kd L M) (hp : H p = some (.lst xs)) (n : kp ≠ p) : PactsH K C (upd H p o) x kp kd L M := by
  obtain ⟨dx, ho⟩ := h.pa.ob
  exact ⟨⟨⟨dx, upd_get (ne_of ho hp (by intro z; cases z)) ho⟩, h.pa.pr.keep (fun o e => upd_get n e) (fun t ys e => upd_get (ne_of e hp (by intro z; cases z)) e), upd_get (ne_of h.pa.pc hp (by intro z; cases z)) h.pa.pc⟩, fun e he => (h.at_ e he).tk (TK.lst hp)⟩
theorem PairsAt.lst {H : Hp} {D p : Addr} {L : List (Addr × Pr)} {xs : List V} {o : HO} (h : PairsAt H D L) (hp : H p = some (.lst xs)) (n : D ≠ p) : PairsAt (upd H p o) D L := h.keep (fun o e => upd_get n e) (fun t ys e => upd_get (ne_of e hp (by intro z; cases z)) e)
theorem HelpersAt.lst {K : PySem.W.Frag} {H : Hp} {D p : Addr} {M : List (Addr × Hl)} {xs : List V} {o : HO} (h : HelpersAt K H D M) (hp : H p = some (.lst xs)) (n : D ≠ p) : HelpersAt K (upd H p o) D M := h.tk (TK.lst hp) fun o e => upd_get n e
theorem no_FB {ps : List Pr} {hs : List Hl} (G : Good ps) (GH : GoodH ps hs) {z : Int} (f : FB ps hs z) (n : z ≠ -1) : False := n (FB_one f (.inl ⟨rfl, G.okPs, GH.okHs⟩))
def spLaw (K : PySem.W.Frag) : Sp := fun vs H Q _ => ∃ (c : Addr) (ns : List Int), vs = [.ref c] ∧ SqL K H c (ns.map V.int) ∧ ns.length ≤ 63 ∧ ∀ H', Q (.bl true) H'
theorem ok_law (T : Txt K mg a) : FnOk P w K mg base CX0 7 a.f_law a.d_law ["_law_script"] (spLaw K) := by
  have G__law_box := ok__law_box (P := P) (w := w) (base := base) T
  have G__law_pairs := ok__law_pairs (P := P) (w := w) (base := base) T
  have G__law_helpers := ok__law_helpers (P := P) (w := w) (base := base) T
  have G_Pacts___init__ := ok_Pacts___init__ (P := P) (w := w) (base := base) T
  have G__law_otherwise := ok__law_otherwise (P := P) (w := w) (base := base) T
  have G__law_told := ok__law_told (P := P) (w := w) (base := base) T
  have G_Pacts___eq__ := ok_Pacts___eq__ (P := P) (w := w) (base := base) T
  have G_Pacts_names := ok_Pacts_names (P := P) (w := w) (base := base) T
  have G_Pacts_pairs := ok_Pacts_pairs (P := P) (w := w) (base := base) T
  have G__law_refused := ok__law_refused (P := P) (w := w) (base := base) T
  have G_Pacts_errors := ok_Pacts_errors (P := P) (w := w) (base := base) T
  have G_Pacts___str__ := ok_Pacts___str__ (P := P) (w := w) (base := base) T
  have cl_Pacts := T.cl_Pacts
  have na_Pacts_kept_pairs := T.na_Pacts_kept_pairs
  have na_Pacts_kept_pacts := T.na_Pacts_kept_pacts
  refine T.F_law.ok sc_law (fun vs H Q E h => ?_) (fun cdv A outer s H vs Q E hr h => ?_)
  · obtain ⟨c, ns, rfl, _⟩ := h
    rfl
  · obtain ⟨c, ns, rfl, hS, hl, q⟩ := h
    refine ⟨_, (pss_cons (ps_set (i := 1) sc_law.nd rfl (Or.inl rfl) (pe_call G__law_box (hr.mono (by decide)) rfl T.m__law_box T.F__law_box.kp T.b__law_box .nil pass0 (pa_cons (pv 0) pa_nil)))
      (pss_cons (ps_set (i := 2) sc_law.nd rfl (Or.inl rfl) (pe_call G__law_pairs (hr.mono (by decide)) rfl T.m__law_pairs T.F__law_pairs.kp T.b__law_pairs .nil pass0 (pa_cons (pv 1) (pa_cons pe_int pa_nil))))
      (pss_cons (ps_set (i := 3) sc_law.nd rfl (Or.inl rfl) (pe_call G__law_helpers (hr.mono (by decide)) rfl T.m__law_helpers T.F__law_helpers.kp T.b__law_helpers .nil pass0 (pa_cons (pv 1) (pa_cons (pv 2) pa_nil))))
      (pss_cons (ps_set (i := 4) sc_law.nd rfl (Or.inl rfl) (pe_lst (pa_cons (pe_callTy call_list_of (by rfl) T.z_list (by decide +kernel) (pa_cons (pv 2) pa_nil)) (pa_cons (pe_callTy call_list_of (by rfl) T.z_list (by decide +kernel) (pa_cons (pv 3) pa_nil)) pa_nil))))
      (pss_cons (ps_set (i := 5) sc_law.nd rfl (Or.inl rfl) (pe_makeK T.mk_Pacts G_Pacts___init__ (hr.mono (by decide)) rfl T.m_Pacts (KBinds.kn T.kb_Pacts___init___helpers rfl) passL (pa_cons (pe_ix ix_list (pv 4) pe_int (fun _ _ => rfl)) pa_nil) (pk_cons (pe_ix ix_list (pv 4) pe_int (fun _ _ => rfl)) pk_nil)))
      (pss_cons (ps_expr (pe_bm0 PySem.F.plainAttrs_list PySem.F.slot_list_clear PySem.F.type_list_clear mt_clear (pe_ix ix_list (pv 4) pe_int (fun _ _ => rfl))))
      (pss_cons (ps_expr (pe_bm0 PySem.F.plainAttrs_list PySem.F.slot_list_clear PySem.F.type_list_clear mt_clear (pe_ix ix_list (pv 4) pe_int (fun _ _ => rfl))))
      (pss_cons (ps_if (pt_not (pt_val (pe_call G__law_told (hr.mono (by decide)) rfl T.m__law_told T.F__law_told.kp T.b__law_told .nil pass0 (pa_cons (pv 5) (pa_cons (pv 2) (pa_cons (pv 3) pa_nil)))))) (pss_one (ps_ret pe_bl)) pss_nil)
      (pss_cons (ps_expr (pe_bm PySem.F.plainAttrs_list PySem.F.slot_list_append PySem.F.type_list_append mt_append (pe_meth (pv 5) T.cl_Pacts T.mt_Pacts_names G_Pacts_names (hr.mono (by decide)) T.b_Pacts_names .nil pass0 (pa_cons pe_int pa_nil)) (pa_cons pe_str pa_nil)))
      (pss_cons (ps_expr (pe_bm0 PySem.F.plainAttrs_list PySem.F.slot_list_clear PySem.F.type_list_clear mt_clear (pe_meth0 (pv 5) T.cl_Pacts T.mt_Pacts_pairs G_Pacts_pairs (hr.mono (by decide)) T.b_Pacts_pairs .nil pass0)))
      (pss_cons (ps_stop (ps_for PassesOwn.never rfl (pi_wait (pi_list (by exact (pe_op op_cat (pe_lst (pa_cons pe_str (pa_cons pe_str (pa_cons pe_str pa_nil)))) (pe_lc (own := [("_law_pair", 11)]) (g := gName 11) (tt := tYes) (te := (tOp (rIxT K) _ _)) rfl sc_law.nd (pi_list (pv 2)) (blkOk_by (own := [("_law_pair", 11)]) (N := n_law) (sc := defScope s_law) (by decide +kernel)) (fun _ _ _ _ _ => (pg_name (i := 11) sc_law.nd rfl (Or.inl rfl))) (fun _ _ _ _ _ => pts_nil) (fun _ _ _ _ _ => (pe_ix ix_tup (pv 11) pe_int (fun _ _ => rfl)))))))) (pg_name (i := 6) sc_law.nd rfl (Or.inl rfl)) (pss_one (ps_if (PW.pt (pw_and (pt_cmpR op_notIn_seq (pv 6) (pe_lc (own := [("_law_helper", 7)]) (g := gName 7) (tt := tYes) (te := (tOp (rIxT K) _ _)) rfl sc_law.nd (pi_list (pv 3)) (blkOk_by (own := [("_law_helper", 7)]) (N := n_law) (sc := defScope s_law) (by decide +kernel)) (fun _ _ _ _ _ => (pg_name (i := 7) sc_law.nd rfl (Or.inl rfl))) (fun _ _ _ _ _ => pts_nil) (fun _ _ _ _ _ => (pe_ix ix_tup (pv 7) pe_int (fun _ _ => rfl)))) (by rfl)) (pw_and1 (pt_not (pt_val (pe_call G__law_refused (hr.mono (by decide)) rfl T.m__law_refused T.F__law_refused.kp T.b__law_refused .nil pass0 (pa_cons (pv 5) (pa_cons (pv 6) pa_nil)))))))) (pss_one (ps_ret pe_bl)) pss_nil))))
      (pss_cons (ps_stop (ps_for PassesOwn.never rfl (pi_wait (pi_list (pv 3))) (pg_name (i := 7) sc_law.nd rfl (Or.inl rfl)) (pss_one (ps_expr (pe_bm PySem.F.plainAttrs_list PySem.F.slot_list_append PySem.F.type_list_append mt_append (pe_methK (pv 5) T.cl_Pacts T.mt_Pacts_errors G_Pacts_errors (hr.mono (by decide)) T.kb_Pacts_errors_side passL (pa_cons (pe_ix ix_tup (pv 7) pe_int (fun _ _ => rfl)) pa_nil) (pk_cons pe_int pk_nil)) (pa_cons pe_str pa_nil))))))
      (pss_cons (ps_set (i := 8) sc_law.nd rfl (Or.inl rfl) (pe_make T.mk_Pacts G_Pacts___init__ (hr.mono (by decide)) rfl T.m_Pacts T.b_Pacts___init__ .nil passL (pa_cons (pe_callTy call_list_of (by rfl) T.z_list (by decide +kernel) (pa_cons (pv 2) pa_nil)) (pa_cons (pe_callTy call_list_of (by rfl) T.z_list (by decide +kernel) (pa_cons (pv 3) pa_nil)) pa_nil))))
      (pss_cons (ps_set (i := 9) sc_law.nd rfl (Or.inl rfl) (pe_call G__law_otherwise (hr.mono (by decide)) rfl T.m__law_otherwise T.F__law_otherwise.kp T.b__law_otherwise .nil pass0 (pa_cons (pv 1) (pa_cons (pv 2) (pa_cons (pv 3) pa_nil)))))
      (pss_cons (ps_set (i := 10) sc_law.nd rfl (Or.inl rfl) (pe_make T.mk_Pacts G_Pacts___init__ (hr.mono (by decide)) rfl T.m_Pacts T.b_Pacts___init__ .nil passL (pa_cons (pe_ix ix_tup (pv 9) pe_int (fun _ _ => rfl)) (pa_cons (pe_ix ix_tup (pv 9) pe_int (fun _ _ => rfl)) pa_nil))))
      (pss_cons (ps_if (PW.pt (pw_or (pt_not (pt_cmpR (op_eqO G_Pacts___eq__ T.mt_Pacts___eq__.at_ T.mt_Pacts___eq__.fn T.b_Pacts___eq__ pass0 (hr.mono (by decide))) (pv 5) (pv 8) (nomark _))) (pw_or (pt_cmpR (op_neO G_Pacts___eq__ T.mt_Pacts___eq__.at_ T.mt_Pacts___eq__.fn T.oc_Pacts.ne T.oc_Pacts.ob T.b_Pacts___eq__ pass0 (hr.mono (by decide))) (pv 5) (pv 8) (nomark _)) (pw_or (pt_cmpR (op_eqO G_Pacts___eq__ T.mt_Pacts___eq__.at_ T.mt_Pacts___eq__.fn T.b_Pacts___eq__ pass0 (hr.mono (by decide))) (pv 5) (pv 10) (nomark _)) (pw_or (pt_cmpR (op_eqO G_Pacts___eq__ T.mt_Pacts___eq__.at_ T.mt_Pacts___eq__.fn T.b_Pacts___eq__ pass0 (hr.mono (by decide))) (pv 10) (pv 5) (nomark _)) (pw_or1 (pt_not (pt_cmpR (op_neO G_Pacts___eq__ T.mt_Pacts___eq__.at_ T.mt_Pacts___eq__.fn T.oc_Pacts.ne T.oc_Pacts.ob T.b_Pacts___eq__ pass0 (hr.mono (by decide))) (pv 5) (pv 10) (nomark _))))))))) (pss_one (ps_ret pe_bl)) pss_nil)
      (pss_cons (ps_if (PW.pt (pw_or (pt_cmpR (op_inO G_Pacts___eq__ T.mt_Pacts___eq__.at_ T.mt_Pacts___eq__.fn T.oc_Pacts.m1 T.oc_Pacts.m2 T.oc_Pacts.m3 T.oc_Pacts.m4 T.b_Pacts___eq__ pass0 (hr.mono (by decide))) (pv 5) (pe_lst (pa_cons (pe_callTy (call_strO T.mt_Pacts___str__ G_Pacts___str__ (hr.mono (by decide)) T.b_Pacts___str__ pass0) (by rfl) T.z_str (by decide +kernel) (pa_cons (pv 5) pa_nil)) (pa_cons (pv 2) (pa_cons (pv 3) (pa_cons (pe_callB call_lenK (by rfl) T.z_len PySem.boot_len (pa_cons (pv 3) pa_nil)) (pa_cons pe_non pa_nil)))))) (by rfl)) (pw_or1 (pt_not (pt_val (pe_call G__law_told (hr.mono (by decide)) rfl T.m__law_told T.F__law_told.kp T.b__law_told .nil pass0 (pa_cons (pv 8) (pa_cons (pv 2) (pa_cons (pv 3) pa_nil))))))))) (pss_one (ps_ret pe_bl)) pss_nil)
      (pss_one (ps_ret (pe_call G__law_told (hr.mono (by decide)) rfl T.m__law_told T.F__law_told.kp T.b__law_told .nil pass0 (pa_cons (pv 5) (pa_cons (pv 2) (pa_cons (pv 3) pa_nil))))))))))))))))))))))), ?_⟩
    walk_at "go"
    intro b g l H1 hb hg hl1 B1 s1
    walk_at "go"
    intro D L n2 H2 G hD PD2 fr B2 hn2 k2
    have nD := B1.fresh hD
    have nDb := nD.1
    have nDg := nD.2.1
    walk_at "go"
    intro F M n3 H3 GH hF HF3 B3 hn3 k3
    have nF := B2.fresh hF
    have PD3 : PairsAt H3 D L := PD2.keep (fun o e => k3 _ _ nDb nDg e) (B2.tups k3)
    have gl := G.len
    have ghl := GH.len
    rw [List.length_map] at gl ghl
    have szP := G.xp.sz (by decide)
    have szH := (GH.xh G).sz (by decide)
    have hls3 := PD3.ls
    walk_at "go"
    intro p4 hp4
    obtain ⟨H4, e4⟩ : ∃ H4, H4 = upd H3 p4 (.lst (L.map fun e => V.ref e.1)) := ⟨_, rfl⟩
    have s4 : Same H3 H4 := by rw [e4]; exact Same.upd_new hp4
    have h4 : H4 p4 = some (.lst (L.map fun e => V.ref e.1)) := by rw [e4, upd_same]
    rw [← e4]
    have PD4 := PD3.same s4
    have HF4 := HF3.same s4
    have B4 := B3.same s4
    have hlF4 := HF4.ls
    walk_at "go"
    intro p5 hp5
    obtain ⟨H5, e5⟩ : ∃ H5, H5 = upd H4 p5 (.lst (M.map fun e => V.ref e.1)) := ⟨_, rfl⟩
    have s5 : Same H4 H5 := by rw [e5]; exact Same.upd_new hp5
    have h5 : H5 p5 = some (.lst (M.map fun e => V.ref e.1)) := by rw [e5, upd_same]
    rw [← e5]
    have PD5 := PD4.same s5
    have HF5 := HF4.same s5
    have B5 := B4.same s5
    walk_at "go"
    intro p6 hp6
    obtain ⟨H6, e6⟩ : ∃ H6, H6 = upd H5 p6 (.lst [.ref p4, .ref p5]) := ⟨_, rfl⟩
    have s6 : Same H5 H6 := by rw [e6]; exact Same.upd_new hp6
    have h6 : H6 p6 = some (.lst [.ref p4, .ref p5]) := by rw [e6, upd_same]
    rw [← e6]
    have PD6 := PD5.same s6
    have HF6 := HF5.same s6
    have B6 := B5.same s6
    walk_at "go"
    intro x dx nx ndx nex
    have s7 : Same H6 (upd (upd H6 dx (.own x)) x (.ins a.c_Pacts dx [])) := fun y o e => upd_get (ne_of_none e nx) (upd_get (ne_of_none e ndx) e)
    have P46 : PairsAt H6 p4 L := ⟨s6 _ _ (s5 _ _ h4), PD6.at_⟩
    have P56 : HelpersAt K H6 p5 M := ⟨s6 _ _ h5, HF6.at_⟩
    refine ⟨x, dx, p4, p5, L, M, rfl, upd_same, P46.same s7, P56.same s7, szP, szH, fun _ _ kp kd H8 hkp hkd PH8 k8 => ⟨rfl, ?_⟩, fun z fb nz => (no_FB G GH fb nz).elim⟩
    have s8 : Same H6 H8 := fun y o e => k8 y o (ne_of_none e nx) (s7 _ _ e)
    have h68 := s8 _ _ h6
    have h48 := s8 _ _ P46.ls
    have h58 := s8 _ _ P56.ls
    have PD8 := PD6.same s8
    have HF8 := HF6.same s8
    have B8 := B6.same s8
    have n4 := B3.fresh hp4
    have n5 := B4.fresh hp5
    have nD4 : D ≠ p4 := ne_of_none PD3.ls hp4
    have nF4 : F ≠ p4 := ne_of_none HF3.ls hp4
    have nD5 : D ≠ p5 := ne_of_none PD4.ls hp5
    have nF5 : F ≠ p5 := ne_of_none HF4.ls hp5
    have n45 : p4 ≠ p5 := ne_of_none h4 hp5
    have n64 : p6 ≠ p4 := (ne_of_none (s5 _ _ h4) hp6).symm
    have nk4 : kp ≠ p4 := fun z => by rw [z, s7 _ _ P46.ls] at hkp; cases hkp
    have nk5 : kp ≠ p5 := fun z => by rw [z, s7 _ _ P56.ls] at hkp; cases hkp
    have bl := B6.lists
    have nkb : kp ≠ b := fun z => by
      obtain ⟨⟨_, h1⟩, _⟩ := bl
      rw [z, s7 _ _ h1] at hkp; cases hkp
    have nkg : kp ≠ g := fun z => by
      obtain ⟨_, ⟨_, h2⟩, _⟩ := bl
      rw [z, s7 _ _ h2] at hkp; cases hkp
    have hA : atI [V.ref p4, .ref p5] 0 = some (.ref p4) := rfl
    have hB : atI [V.ref p4, .ref p5] 1 = some (.ref p5) := rfl
    walk_at "go"
    obtain ⟨H9, e9⟩ : ∃ H9, H9 = upd H8 p4 (.lst []) := ⟨_, rfl⟩
    have PH9 : PactsH K a.c_Pacts H9 x kp kd L M := by rw [e9]; exact PH8.lst h48 nk4
    have PD9 : PairsAt H9 D L := by rw [e9]; exact PD8.lst h48 nD4
    have HF9 : HelpersAt K H9 F M := by rw [e9]; exact HF8.lst h48 nF4
    have B9 : BoxAt H9 b g l n3 := by rw [e9]; exact B8.upd n4
    have h69 : H9 p6 = some (.lst [.ref p4, .ref p5]) := by rw [e9]; exact upd_get n64 h68
    have h59 : H9 p5 = some (.lst (M.map fun e => V.ref e.1)) := by rw [e9]; exact upd_get n45.symm h58
    rw [← e9]
    walk_at "go"
    obtain ⟨H10, e10⟩ : ∃ H10, H10 = upd H9 p5 (.lst []) := ⟨_, rfl⟩
    have PH10 : PactsH K a.c_Pacts H10 x kp kd L M := by rw [e10]; exact PH9.lst h59 nk5
    have PD10 : PairsAt H10 D L := by rw [e10]; exact PD9.lst h59 nD5
    have HF10 : HelpersAt K H10 F M := by rw [e10]; exact HF9.lst h59 nF5
    have B10 : BoxAt H10 b g l n3 := by rw [e10]; exact B9.upd n5
    rw [← e10]
    walk_at "go"
    intro Ha sa
    have PHa := PH10.same sa
    obtain ⟨dxa, hoa⟩ := PHa.pa.ob
    have lM : M.length ≤ 10000 := by omega
    walk_at "go"
    intro Dn Hb hDn hnb sb
    have fl0 := List.length_filter_le (fun e : Addr × Hl => decide (e.2.side = 0)) M
    walk_at "go"
    refine ⟨small_lt (by rw [List.length_map, List.length_map]; omega), ?_⟩
    obtain ⟨Hc, ec⟩ : ∃ Hc, Hc = upd Hb Dn (.lst (((M.filter fun e => decide (e.2.side = 0)).map fun e => e.2.name).map V.str ++ [.str "x"])) := ⟨_, rfl⟩
    have sc : Same Ha Hc := fun y o e => by
      rw [ec]
      exact upd_get (ne_of_none e hDn) (sb _ _ e)
    rw [← ec]
    have PHc := PHa.same sc
    obtain ⟨dxc, hoc⟩ := PHc.pa.ob
    have pac := PHc.pa
    walk_at "go"
    intro R hR
    have hRR : upd Hc R (.lst (L.map fun e => V.ref e.1)) R = some (.lst (L.map fun e => V.ref e.1)) := upd_same
    walk_at "go"
    obtain ⟨Hd, ed⟩ : ∃ Hd, Hd = upd (upd Hc R (.lst (L.map fun e => V.ref e.1))) R (.lst []) := ⟨_, rfl⟩
    have sd : Same Hc Hd := fun y o e => by
      rw [ed]
      exact upd_get (ne_of_none e hR) (upd_get (ne_of_none e hR) e)
    rw [← ed]
    have s10d : Same H10 Hd := (sa.trans sc).trans sd
    refine sq_seq (stop_in ?_)
    have PDd := PD10.same s10d
    have HFd := HF10.same s10d
    walk_at "go"
    intro pe hpe
    obtain ⟨He, ee⟩ : ∃ He, He = upd Hd pe (.lst [.str "", .str "A", .str "zzzzzzzz"]) := ⟨_, rfl⟩
    have se : Same Hd He := by rw [ee]; exact Same.upd_new hpe
    have he : He pe = some (.lst [.str "", .str "A", .str "zzzzzzzz"]) := by rw [ee, upd_same]
    rw [← ee]
    have PDe := PDd.same se
    have HFe := HFd.same se
    have hlse := PDe.ls
    walk_at "go"
    intro W hW
    refine lcL (K := K) (a := D) (xs := L.map fun e => V.ref e.1) (fun j H' => H' W = some (.lst (((L.take j).map fun e => e.2.near).map V.str)) ∧ Same He H') ?_ ?_ ?_ ?_
    · exact ⟨upd_same, Same.upd_new hW⟩
    · exact fun i H' _ h => SqL.of (h.2 _ _ hlse)
    · rintro j y H' hj ⟨g1, g2⟩
      rw [List.getElem?_map] at hj
      obtain ⟨e, he, rfl⟩ := Option.map_eq_some_iff.mp hj
      have hp : H' e.1 = some (.tup [.str e.2.near, .str e.2.far, .bl e.2.laden]) := g2 _ _ (PDe.at_ e (List.mem_of_getElem? he))
      have hlt := (List.getElem?_eq_some_iff.mp he).1
      have hat : atI [V.str e.2.near, .str e.2.far, .bl e.2.laden] 0 = some (.str e.2.near) := rfl
      refine ⟨rfl, ?_⟩
      walk_at "go"
      refine ⟨small_lt (by rw [List.length_map, List.length_map, List.length_take]; omega), wait ⟨?_, fun x o e => upd_get (ne_of_none e hW) (g2 x o e)⟩⟩
      rw [upd_same, List.take_add_one, he, List.map_append, List.map_append] <;> rfl
    rintro Hf ⟨hWf, sf⟩
    rw [List.length_map, List.take_length] at hWf
    have hef := sf _ _ he
    have hzf : [V.str "", .str "A", .str "zzzzzzzz"].length + ((L.map fun e => e.2.near).map V.str).length ≤ sizeLine := small_le (by rw [List.length_map, List.length_map]; show 3 + _ ≤ _; omega)
    walk_at "go"
    intro Y hY
    obtain ⟨zs, ezs⟩ : ∃ zs : List Str, zs = (["", "A", "zzzzzzzz"] : List Str) ++ L.map fun e => e.2.near := ⟨_, rfl⟩
    obtain ⟨Hg, eg⟩ : ∃ Hg, Hg = upd Hf Y (.lst ([V.str "", .str "A", .str "zzzzzzzz"] ++ (L.map fun e => e.2.near).map V.str)) := ⟨_, rfl⟩
    have sg : Same Hf Hg := by rw [eg]; exact Same.upd_new hY
    have hYg : Hg Y = some (.lst (zs.map V.str)) := by rw [eg, upd_same, ezs, List.map_append] <;> rfl
    rw [← eg]
    have s10g : Same H10 Hg := (s10d.trans se).trans (sf.trans sg)
    walk_at "go"
    refine wait ?_
    refine forL (K := K) (a := Y) (xs := zs.map V.str) (fun j σ H' => (∃ u6, σ = [some (.ref c), some (.ref b), some (.ref D), some (.ref F), some (.ref p6), some (.ref x), u6, none, none, none, none, none]) ∧ Same Hg H') ?_ ?_ ?_ ?_
    · exact ⟨⟨_, rfl⟩, fun _ _ e => e⟩
    · exact fun j σ H' _ h => SqL.of (h.2 _ _ hYg)
    · rintro j y σ Hh hj ⟨⟨u6, rfl⟩, sh⟩
      rw [List.getElem?_map] at hj
      obtain ⟨z, hz, rfl⟩ := Option.map_eq_some_iff.mp hj
      have s10h : Same H10 Hh := s10g.trans sh
      have HFh := HF10.same s10h
      have PHh := PH10.same s10h
      have hlFh := HFh.ls
      walk_at "go"
      intro V1 hV1
      refine lcL (K := K) (a := F) (xs := M.map fun e => V.ref e.1) (fun j H' => H' V1 = some (.lst (((M.take j).map fun e => e.2.name).map V.str)) ∧ Same Hh H') ?_ ?_ ?_ ?_
      · exact ⟨upd_same, Same.upd_new hV1⟩
      · exact fun i H' _ h => SqL.of (h.2 _ _ hlFh)
      · rintro j y H' hj ⟨g1, g2⟩
        rw [List.getElem?_map] at hj
        obtain ⟨e, he, rfl⟩ := Option.map_eq_some_iff.mp hj
        obtain ⟨tk, th, he3, _, _⟩ := (HFh.at_ e (List.mem_of_getElem? he)).tk (TK.same g2)
        have hlt := (List.getElem?_eq_some_iff.mp he).1
        have hat0 : atI [V.str e.2.name, .int e.2.side, .ref tk, .bl e.2.gives, .ref th] 0 = some (.str e.2.name) := rfl
        refine ⟨rfl, ?_⟩
        walk_at "go"
        refine ⟨small_lt (by rw [List.length_map, List.length_map, List.length_take]; omega), wait ⟨?_, fun x o e => upd_get (ne_of_none e hV1) (g2 x o e)⟩⟩
        rw [upd_same, List.take_add_one, he, List.map_append, List.map_append] <;> rfl
      · rintro Hi ⟨g1, g2⟩
        rw [List.length_map, List.take_length] at g1
        refine ⟨V1, _, rfl, .inl (SqL.of g1), rfl, flat_strs1 _, ?_⟩
        rw [if_pos rfl, in_strs]
        by_cases hin : z ∈ M.map fun e => e.2.name
        · rw [decide_eq_true hin]
          walk_at "go"
          exact wait ⟨⟨_, rfl⟩, sh.trans g2⟩
        · rw [decide_eq_false hin]
          have hno : ∀ e ∈ M, e.2.name ≠ z := fun e he y => hin (List.mem_map.mpr ⟨e, he, y⟩)
          have PHi := PHh.same g2
          walk_at "go"
          intro Hj sj
          walk_at "go"
          exact wait ⟨⟨_, rfl⟩, (sh.trans g2).trans sj⟩
    rintro σ Hk ⟨⟨u6, rfl⟩, sk⟩
    have s10k : Same H10 Hk := s10g.trans sk
    have hlFk := s10k _ _ HF10.ls
    refine sq_seq (stop_in ?_)
    walk_at "go"
    refine wait ?_
    refine forL (K := K) (a := F) (xs := M.map fun e => V.ref e.1) (fun j σ H' => (∃ u7, σ = [some (.ref c), some (.ref b), some (.ref D), some (.ref F), some (.ref p6), some (.ref x), u6, u7, none, none, none, none]) ∧ Same H10 H') ?_ ?_ ?_ ?_
    · exact ⟨⟨_, rfl⟩, s10k⟩
    · exact fun j σ H' _ h => SqL.of (h.2 _ _ HF10.ls)
    · rintro j y σ Hl hj ⟨⟨u7, rfl⟩, sl⟩
      rw [List.getElem?_map] at hj
      obtain ⟨e, he, rfl⟩ := Option.map_eq_some_iff.mp hj
      have hem := List.mem_of_getElem? he
      have PHl := PH10.same sl
      obtain ⟨dxl, hol⟩ := PHl.pa.ob
      obtain ⟨tk, th, he3, _, _⟩ := (HF10.same sl).at_ e hem
      have he3 : Hl e.1 = some (.tup [.str e.2.name, .int e.2.side, .ref tk, .bl e.2.gives, .ref th]) := he3
      have hat0 : atI [V.str e.2.name, .int e.2.side, .ref tk, .bl e.2.gives, .ref th] 0 = some (.str e.2.name) := rfl
      have hs0 : (0 : Int) = 0 ∨ (0 : Int) = 1 := .inl rfl
      walk_at "go"
      refine ⟨fun d hd z => ?_, fun no => absurd rfl (no e hem)⟩
      intro D4 Hm hD4 h4m sm
      have lc4 := cw_len (L.map (·.2)) d.2.side 0 d.2.throws
      rw [← crossed_cw, List.length_map] at lc4
      have lc5 : d.2.throws.length * L.length ≤ 4 * 6 := Nat.mul_le_mul (GH.ok d.2 (List.mem_map.mpr ⟨d, hd, rfl⟩)).hl gl
      walk_at "go"
      refine ⟨small_lt (by rw [List.length_map]; omega), wait ⟨⟨_, rfl⟩, fun y o e => upd_get (ne_of_none (sl _ _ e) hD4) (sm _ _ (sl _ _ e))⟩⟩
    rintro σ Hn ⟨⟨u7, rfl⟩, sn⟩
    have PDn := PD10.same sn
    have HFn := HF10.same sn
    have Bn := B10.same sn
    have PHn := PH10.same sn
    have hlsn := PDn.ls
    walk_at "go"
    intro po hpo
    obtain ⟨Ho, eo⟩ : ∃ Ho, Ho = upd Hn po (.lst (L.map fun e => V.ref e.1)) := ⟨_, rfl⟩
    have so : Same Hn Ho := by rw [eo]; exact Same.upd_new hpo
    have ho : Ho po = some (.lst (L.map fun e => V.ref e.1)) := by rw [eo, upd_same]
    rw [← eo]
    have PDo := PDn.same so
    have HFo := HFn.same so
    have Bo := Bn.same so
    have PHo := PHn.same so
    have hlFo := HFo.ls
    walk_at "go"
    intro pp hpp
    obtain ⟨Hp, ep⟩ : ∃ Hp, Hp = upd Ho pp (.lst (M.map fun e => V.ref e.1)) := ⟨_, rfl⟩
    have sp : Same Ho Hp := by rw [ep]; exact Same.upd_new hpp
    have hp : Hp pp = some (.lst (M.map fun e => V.ref e.1)) := by rw [ep, upd_same]
    rw [← ep]
    have PDp := PDo.same sp
    have HFp := HFo.same sp
    have Bp := Bo.same sp
    have PHp := PHo.same sp
    walk_at "go"
    intro x2 dx2 nx2 ndx2 nex2
    have sq : Same Hp (upd (upd Hp dx2 (.own x2)) x2 (.ins a.c_Pacts dx2 [])) := fun y o e => upd_get (ne_of_none e nx2) (upd_get (ne_of_none e ndx2) e)
    have Pop : PairsAt Hp po L := ⟨sp _ _ ho, PDp.at_⟩
    have Hpp : HelpersAt K Hp pp M := ⟨hp, HFp.at_⟩
    refine ⟨x2, dx2, po, pp, L, M, rfl, upd_same, Pop.same sq, Hpp.same sq, szP, szH, fun _ _ kp2 kd2 Hr hkp2 hkd2 PH2r k2r => ⟨rfl, ?_⟩, fun z fb nz => (no_FB G GH fb nz).elim⟩
    have sr : Same Hp Hr := fun y o e => k2r y o (ne_of_none e nx2) (sq _ _ e)
    have PDr := PDp.same sr
    have HFr := HFp.same sr
    have Br := Bp.same sr
    have PHr := PHp.same sr
    have blp := Bp.lists
    have nk2b : kp2 ≠ b := fun z => by
      obtain ⟨⟨_, h1⟩, _⟩ := blp
      rw [z, sq _ _ h1] at hkp2; cases hkp2
    have nk2g : kp2 ≠ g := fun z => by
      obtain ⟨_, ⟨_, h2⟩, _⟩ := blp
      rw [z, sq _ _ h2] at hkp2; cases hkp2
    have nFb := nF.1
    have nFg := nF.2.1
    walk_at "go"
    intro t D' F' L' M' Ht htt PDt HFt OT kt
    have PD1t : PairsAt Ht D L := PDr.keep (fun o e => kt _ _ nDb nDg e) (Br.tups kt)
    have HF1t : HelpersAt K Ht F M := HFr.tk (Br.tk kt) (fun o e => kt _ _ nFb nFg e)
    have PH1t := PHr.keep2 Br kt nkb nkg
    have PH2t := PH2r.keep2 Br kt nk2b nk2g
    have hA1 : atI [V.ref D', .ref F'] 0 = some (.ref D') := rfl
    have hA2 : atI [V.ref D', .ref F'] 1 = some (.ref F') := rfl
    walk_at "go"
    intro x3 dx3 nx3 ndx3 nex3
    have su : Same Ht (upd (upd Ht dx3 (.own x3)) x3 (.ins a.c_Pacts dx3 [])) := fun y o e => upd_get (ne_of_none e nx3) (upd_get (ne_of_none e ndx3) e)
    refine ⟨x3, dx3, D', F', L', M', rfl, upd_same, PDt.same su, HFt.same su, OT.g.xp.sz (by decide), (OT.gh.xh OT.g).sz (by decide), fun _ _ kp3 kd3 Hv hkp3 hkd3 PH3v k3v => ⟨rfl, ?_⟩, fun z fb nz => (no_FB OT.g OT.gh fb nz).elim⟩
    have sv : Same Ht Hv := fun y o e => k3v y o (ne_of_none e nx3) (su _ _ e)
    have PH1v := PH1t.same sv
    have PH2v := PH2t.same sv
    have PDv := PD1t.same sv
    have HFv := HF1t.same sv
    obtain ⟨da1, hoa1⟩ := PH1v.pa.ob
    obtain ⟨da2, hoa2⟩ := PH2v.pa.ob
    obtain ⟨da3, hoa3⟩ := PH3v.pa.ob
    have un : ¬ (L.map (·.2) = L'.map (·.2) ∧ M.map (·.2) = M'.map (·.2)) := fun z => by
      rcases OT.un with u | u
      · exact u z.1.symm
      · exact u z.2.symm
    walk_at "go"
    refine .inl ⟨x, kp, kd, x2, kp2, kd2, L, L, M, M, rfl, PH1v, PH2v, G, GH, G, GH, fun r Hw sw hr1 => ⟨r, rfl, ?_⟩⟩
    have er : r = true := hr1.mpr ⟨rfl, rfl⟩
    subst er
    have PH1w := PH1v.same sw
    have PH2w := PH2v.same sw
    have PH3w := PH3v.same sw
    have hob1w := PH1w.pa.ob
    have hob2w := PH2w.pa.ob
    have hob3w := PH3w.pa.ob
    obtain ⟨db1w, hob1w⟩ := hob1w
    obtain ⟨db2w, hob2w⟩ := hob2w
    obtain ⟨db3w, hob3w⟩ := hob3w
    walk_at "go"
    refine .inl ⟨x, kp, kd, x2, kp2, kd2, L, L, M, M, rfl, PH1w, PH2w, G, GH, G, GH, fun r Hx sx hr1 => ⟨r, rfl, ?_⟩⟩
    have er : r = true := hr1.mpr ⟨rfl, rfl⟩
    subst er
    have PH1x := PH1w.same sx
    have PH2x := PH2w.same sx
    have PH3x := PH3w.same sx
    have hob1x := PH1x.pa.ob
    have hob2x := PH2x.pa.ob
    have hob3x := PH3x.pa.ob
    obtain ⟨db1x, hob1x⟩ := hob1x
    obtain ⟨db2x, hob2x⟩ := hob2x
    obtain ⟨db3x, hob3x⟩ := hob3x
    walk_at "go"
    refine .inl ⟨x, kp, kd, x3, kp3, kd3, L, L', M, M', rfl, PH1x, PH3x, G, GH, OT.g, OT.gh, fun r Hy sy hr1 => ⟨r, rfl, ?_⟩⟩
    have er : r = false := by
      cases r with
      | false => rfl
      | true => exact absurd (hr1.mp rfl) un
    subst er
    have PH1y := PH1x.same sy
    have PH2y := PH2x.same sy
    have PH3y := PH3x.same sy
    have hob1y := PH1y.pa.ob
    have hob2y := PH2y.pa.ob
    have hob3y := PH3y.pa.ob
    obtain ⟨db1y, hob1y⟩ := hob1y
    obtain ⟨db2y, hob2y⟩ := hob2y
    obtain ⟨db3y, hob3y⟩ := hob3y
    walk_at "go"
    refine .inl ⟨x3, kp3, kd3, x, kp, kd, L', L, M', M, rfl, PH3y, PH1y, OT.g, OT.gh, G, GH, fun r Hz sz hr1 => ⟨r, rfl, ?_⟩⟩
    have er : r = false := by
      cases r with
      | false => rfl
      | true => exact absurd ⟨(hr1.mp rfl).1.symm, (hr1.mp rfl).2.symm⟩ un
    subst er
    have PH1z := PH1y.same sz
    have PH2z := PH2y.same sz
    have PH3z := PH3y.same sz
    have hob1z := PH1z.pa.ob
    have hob2z := PH2z.pa.ob
    have hob3z := PH3z.pa.ob
    obtain ⟨db1z, hob1z⟩ := hob1z
    obtain ⟨db2z, hob2z⟩ := hob2z
    obtain ⟨db3z, hob3z⟩ := hob3z
    walk_at "go"
    refine .inl ⟨x, kp, kd, x3, kp3, kd3, L, L', M, M', rfl, PH1z, PH3z, G, GH, OT.g, OT.gh, fun r Hq sq2 hr1 => ⟨r, rfl, ?_⟩⟩
    have er : r = false := by
      cases r with
      | false => rfl
      | true => exact absurd (hr1.mp rfl) un
    subst er
    have svq : Same Hv Hq := ((sw.trans sx).trans (sy.trans sz)).trans sq2
    have PH1q := PH1v.same svq
    have PH2q := PH2v.same svq
    have PDq := PDv.same svq
    have HFq := HFv.same svq
    obtain ⟨db1q, hob1q⟩ := PH1q.pa.ob
    walk_at "go"
    intro ys Hr1 sr1
    have PH1r1 := PH1q.same sr1
    have PH2r1 := PH2q.same sr1
    have PDr1 := PDq.same sr1
    have HFr1 := HFq.same sr1
    have hlFr1 := HFr1.ls
    walk_at "go"
    intro pl hpl
    obtain ⟨Hr2, er2⟩ : ∃ Hr2, Hr2 = upd Hr1 pl (.lst [.str ys, .ref D, .ref F, .int (M.map fun e => V.ref e.1).length, .non]) := ⟨_, rfl⟩
    have sr2 : Same Hr1 Hr2 := by rw [er2]; exact Same.upd_new hpl
    have hpl2 : Hr2 pl = some (.lst [.str ys, .ref D, .ref F, .int (M.map fun e => V.ref e.1).length, .non]) := by rw [er2, upd_same]
    rw [← er2]
    have PH1r2 := PH1r1.same sr2
    have PH2r2 := PH2r1.same sr2
    have PDr2 := PDr1.same sr2
    have HFr2 := HFr1.same sr2
    obtain ⟨db1r, hob1r⟩ := PH1r2.pa.ob
    walk_at "go"
    refine ⟨fun z hz => ?_, ?_⟩
    · have od : Odd K Hr2 z := by
        simp only [List.mem_cons, List.not_mem_nil, or_false] at hz
        rcases hz with rfl | rfl | rfl | rfl | rfl
        · exact True.intro
        · exact ⟨_, PDr2.ls⟩
        · exact ⟨_, HFr2.ls⟩
        · exact True.intro
        · exact True.intro
      exact ⟨od, .inr ⟨x, z, rfl, od, false, rfl, rfl, rfl⟩⟩
    · walk_at "go"
      intro Hr3 sr3
      have PH1r3 := PH1r2.same sr3
      have PDr3 := PDr2.same sr3
      have HFr3 := HFr2.same sr3
      walk_at "go"
      intro Hr4 sr4
      exact q _
end
end Pf
set_option Elab.async false
set_option linter.all false
set_option maxRecDepth 100000
set_option maxHeartbeats 4000000
namespace Pf
open PySem L2
theorem all_mk {K : PySem.W.Frag} {h : Heap} {mg : Str → Option Value} (X : K.In h) (G : h.Ns mainGlobals mg)
    {cc_Pacts : Addr}
    {cc_PactError : Addr}
    {cc_NoWord : Addr}
    {nm_NoWord qq_NoWord : Str} {NN_NoWord : Addr} {bs_NoWord : List Value} {sn_NoWord : List Str} {su_NoWord : List Value} {ab_NoWord : Bool} {co_NoWord : Option Bool} {ddd_NoWord : Option Addr} {m0_NoWord m1_NoWord m2_NoWord m3_NoWord m5_NoWord : Option Value}
    {cc_NoPact : Addr}
    {nm_NoPact qq_NoPact : Str} {NN_NoPact : Addr} {bs_NoPact : List Value} {sn_NoPact : List Str} {su_NoPact : List Value} {ab_NoPact : Bool} {co_NoPact : Option Bool} {ddd_NoPact : Option Addr} {m0_NoPact m1_NoPact m2_NoPact m3_NoPact m5_NoPact : Option Value}
    {cc_NoHelper : Addr}
    {nm_NoHelper qq_NoHelper : Str} {NN_NoHelper : Addr} {bs_NoHelper : List Value} {sn_NoHelper : List Str} {su_NoHelper : List Value} {ab_NoHelper : Bool} {co_NoHelper : Option Bool} {ddd_NoHelper : Option Addr} {m0_NoHelper m1_NoHelper m2_NoHelper m3_NoHelper m5_NoHelper : Option Value}
    {ff_NoWord___init__ : Addr} {od_NoWord___init__ an_NoWord___init__ : Option Addr} {sl_NoWord___init__ : Array (Option Value)} {oc_NoWord___init__ kV_NoWord___init__ dc_NoWord___init__ pm_NoWord___init__ cd_NoWord___init__ ct_NoWord___init__ : Value}
    {ff_NoPact___init__ : Addr} {od_NoPact___init__ an_NoPact___init__ : Option Addr} {sl_NoPact___init__ : Array (Option Value)} {oc_NoPact___init__ kV_NoPact___init__ dc_NoPact___init__ pm_NoPact___init__ cd_NoPact___init__ ct_NoPact___init__ : Value}
    {ff_NoHelper___init__ : Addr} {od_NoHelper___init__ an_NoHelper___init__ : Option Addr} {sl_NoHelper___init__ : Array (Option Value)} {oc_NoHelper___init__ kV_NoHelper___init__ dc_NoHelper___init__ pm_NoHelper___init__ cd_NoHelper___init__ ct_NoHelper___init__ : Value}
    {ff_is_name : Addr} {od_is_name an_is_name : Option Addr} {sl_is_name : Array (Option Value)} {oc_is_name kV_is_name dc_is_name pm_is_name cd_is_name ct_is_name : Value}
    {ff_Pacts___init__ : Addr} {od_Pacts___init__ an_Pacts___init__ : Option Addr} {sl_Pacts___init__ : Array (Option Value)} {oc_Pacts___init__ kV_Pacts___init__ dc_Pacts___init__ pm_Pacts___init__ cd_Pacts___init__ ct_Pacts___init__ : Value}
    {ff_Pacts_fits_pair : Addr} {od_Pacts_fits_pair an_Pacts_fits_pair : Option Addr} {sl_Pacts_fits_pair : Array (Option Value)} {oc_Pacts_fits_pair kV_Pacts_fits_pair dc_Pacts_fits_pair pm_Pacts_fits_pair cd_Pacts_fits_pair ct_Pacts_fits_pair : Value}
    {ff_Pacts_fits_helper : Addr} {od_Pacts_fits_helper an_Pacts_fits_helper : Option Addr} {sl_Pacts_fits_helper : Array (Option Value)} {oc_Pacts_fits_helper kV_Pacts_fits_helper dc_Pacts_fits_helper pm_Pacts_fits_helper cd_Pacts_fits_helper ct_Pacts_fits_helper : Value}
    {ff_Pacts_words_called : Addr} {od_Pacts_words_called an_Pacts_words_called : Option Addr} {sl_Pacts_words_called : Array (Option Value)} {oc_Pacts_words_called kV_Pacts_words_called dc_Pacts_words_called pm_Pacts_words_called cd_Pacts_words_called ct_Pacts_words_called : Value}
    {ff_Pacts_pair_of : Addr} {od_Pacts_pair_of an_Pacts_pair_of : Option Addr} {sl_Pacts_pair_of : Array (Option Value)} {oc_Pacts_pair_of kV_Pacts_pair_of dc_Pacts_pair_of pm_Pacts_pair_of cd_Pacts_pair_of ct_Pacts_pair_of : Value}
    {ff_Pacts_pairs : Addr} {od_Pacts_pairs an_Pacts_pairs : Option Addr} {sl_Pacts_pairs : Array (Option Value)} {oc_Pacts_pairs kV_Pacts_pairs dc_Pacts_pairs pm_Pacts_pairs cd_Pacts_pairs ct_Pacts_pairs : Value}
    {ff_Pacts_names : Addr} {od_Pacts_names an_Pacts_names : Option Addr} {sl_Pacts_names : Array (Option Value)} {oc_Pacts_names kV_Pacts_names dc_Pacts_names pm_Pacts_names cd_Pacts_names ct_Pacts_names : Value}
    {ff_Pacts_pact : Addr} {od_Pacts_pact an_Pacts_pact : Option Addr} {sl_Pacts_pact : Array (Option Value)} {oc_Pacts_pact kV_Pacts_pact dc_Pacts_pact pm_Pacts_pact cd_Pacts_pact ct_Pacts_pact : Value}
    {ff_Pacts_over : Addr} {od_Pacts_over an_Pacts_over : Option Addr} {sl_Pacts_over : Array (Option Value)} {oc_Pacts_over kV_Pacts_over dc_Pacts_over pm_Pacts_over cd_Pacts_over ct_Pacts_over : Value}
    {ff_Pacts_errors : Addr} {od_Pacts_errors an_Pacts_errors : Option Addr} {sl_Pacts_errors : Array (Option Value)} {oc_Pacts_errors kV_Pacts_errors dc_Pacts_errors pm_Pacts_errors cd_Pacts_errors ct_Pacts_errors : Value}
    {ff_Pacts___len__ : Addr} {od_Pacts___len__ an_Pacts___len__ : Option Addr} {sl_Pacts___len__ : Array (Option Value)} {oc_Pacts___len__ kV_Pacts___len__ dc_Pacts___len__ pm_Pacts___len__ cd_Pacts___len__ ct_Pacts___len__ : Value}
    {ff_Pacts___eq__ : Addr} {od_Pacts___eq__ an_Pacts___eq__ : Option Addr} {sl_Pacts___eq__ : Array (Option Value)} {oc_Pacts___eq__ kV_Pacts___eq__ dc_Pacts___eq__ pm_Pacts___eq__ cd_Pacts___eq__ ct_Pacts___eq__ : Value}
    {ff_Pacts_lines_told : Addr} {od_Pacts_lines_told an_Pacts_lines_told : Option Addr} {sl_Pacts_lines_told : Array (Option Value)} {oc_Pacts_lines_told kV_Pacts_lines_told dc_Pacts_lines_told pm_Pacts_lines_told cd_Pacts_lines_told ct_Pacts_lines_told : Value}
    {ff_Pacts___str__ : Addr} {od_Pacts___str__ an_Pacts___str__ : Option Addr} {sl_Pacts___str__ : Array (Option Value)} {oc_Pacts___str__ kV_Pacts___str__ dc_Pacts___str__ pm_Pacts___str__ cd_Pacts___str__ ct_Pacts___str__ : Value}
    {ff_pair_line : Addr} {od_pair_line an_pair_line : Option Addr} {sl_pair_line : Array (Option Value)} {oc_pair_line kV_pair_line dc_pair_line pm_pair_line cd_pair_line ct_pair_line : Value}
    {ff_helper_line : Addr} {od_helper_line an_helper_line : Option Addr} {sl_helper_line : Array (Option Value)} {oc_helper_line kV_helper_line dc_helper_line pm_helper_line cd_helper_line ct_helper_line : Value}
    {ff__law_box : Addr} {od__law_box an__law_box : Option Addr} {sl__law_box : Array (Option Value)} {oc__law_box kV__law_box dc__law_box pm__law_box cd__law_box ct__law_box : Value}
    {ff__law_mixed : Addr} {od__law_mixed an__law_mixed : Option Addr} {sl__law_mixed : Array (Option Value)} {oc__law_mixed kV__law_mixed dc__law_mixed pm__law_mixed cd__law_mixed ct__law_mixed : Value}
    {ff__law_take : Addr} {od__law_take an__law_take : Option Addr} {sl__law_take : Array (Option Value)} {oc__law_take kV__law_take dc__law_take pm__law_take cd__law_take ct__law_take : Value}
    {ff__law_name : Addr} {od__law_name an__law_name : Option Addr} {sl__law_name : Array (Option Value)} {oc__law_name kV__law_name dc__law_name pm__law_name cd__law_name ct__law_name : Value}
    {ff__law_names : Addr} {od__law_names an__law_names : Option Addr} {sl__law_names : Array (Option Value)} {oc__law_names kV__law_names dc__law_names pm__law_names cd__law_names ct__law_names : Value}
    {ff__law_pairs : Addr} {od__law_pairs an__law_pairs : Option Addr} {sl__law_pairs : Array (Option Value)} {oc__law_pairs kV__law_pairs dc__law_pairs pm__law_pairs cd__law_pairs ct__law_pairs : Value}
    {ff__law_some : Addr} {od__law_some an__law_some : Option Addr} {sl__law_some : Array (Option Value)} {oc__law_some kV__law_some dc__law_some pm__law_some cd__law_some ct__law_some : Value}
    {ff__law_helpers : Addr} {od__law_helpers an__law_helpers : Option Addr} {sl__law_helpers : Array (Option Value)} {oc__law_helpers kV__law_helpers dc__law_helpers pm__law_helpers cd__law_helpers ct__law_helpers : Value}
    {ff__law_crossed : Addr} {od__law_crossed an__law_crossed : Option Addr} {sl__law_crossed : Array (Option Value)} {oc__law_crossed kV__law_crossed dc__law_crossed pm__law_crossed cd__law_crossed ct__law_crossed : Value}
    {ff__law_told : Addr} {od__law_told an__law_told : Option Addr} {sl__law_told : Array (Option Value)} {oc__law_told kV__law_told dc__law_told pm__law_told cd__law_told ct__law_told : Value}
    {ff__law_refused : Addr} {od__law_refused an__law_refused : Option Addr} {sl__law_refused : Array (Option Value)} {oc__law_refused kV__law_refused dc__law_refused pm__law_refused cd__law_refused ct__law_refused : Value}
    {ff__law_row_otherwise : Addr} {od__law_row_otherwise an__law_row_otherwise : Option Addr} {sl__law_row_otherwise : Array (Option Value)} {oc__law_row_otherwise kV__law_row_otherwise dc__law_row_otherwise pm__law_row_otherwise cd__law_row_otherwise ct__law_row_otherwise : Value}
    {ff__law_pair_otherwise : Addr} {od__law_pair_otherwise an__law_pair_otherwise : Option Addr} {sl__law_pair_otherwise : Array (Option Value)} {oc__law_pair_otherwise kV__law_pair_otherwise dc__law_pair_otherwise pm__law_pair_otherwise cd__law_pair_otherwise ct__law_pair_otherwise : Value}
    {ff__law_otherwise : Addr} {od__law_otherwise an__law_otherwise : Option Addr} {sl__law_otherwise : Array (Option Value)} {oc__law_otherwise kV__law_otherwise dc__law_otherwise pm__law_otherwise cd__law_otherwise ct__law_otherwise : Value}
    {ff_law : Addr} {od_law an_law : Option Addr} {sl_law : Array (Option Value)} {oc_law kV_law dc_law pm_law cd_law ct_law : Value}
    {tt_LETTERS : Tok}
    {tt_MOST : Tok}
    {tt_MOST_PAIRS : Tok}
    {tt_MOST_HELPERS : Tok}
    {tt_MOST_TAKES : Tok}
    {tt_MOST_THROWS : Tok}
    {kk_HOWS : Addr} {kd_HOWS : Option Addr} {kn_HOWS : Nat} {ks_HOWS : Array (Option Value)} {kt0_HOWS : Tok} {kt1_HOWS : Tok}
    (aC_Pacts : PySem.W.nsIn K mainGlobals "Pacts" = some (some (.ref cc_Pacts)))
    (pg_Pacts : PySem.W.plainGet K cc_Pacts Str.empty = true)
    (hd_Pacts : PySem.W.hasDictIn K cc_Pacts = true)
    (po_Pacts : PySem.W.plainOver K cc_Pacts = true)
    (sa_Pacts : PySem.W.findIn K (.ref cc_Pacts) "__setattr__" = some (some (.builtin "object.__setattr__")))
    (mk_Pacts : PySem.W.makesIn K cc_Pacts = true)
    (kc_Pacts : PySem.W.keepIn K (.ref cc_Pacts) = true)
    (ocne_Pacts : PySem.W.findIn K (.ref cc_Pacts) "__ne__" = some (some (.builtin "object.__ne__")))
    (ocob_Pacts : PySem.W.subIn K (.ref cc_Pacts) (.type "object") = some true)
    (ocm1_Pacts : PySem.W.subIn K (.ref cc_Pacts) (.type "str") = some false)
    (ocm2_Pacts : PySem.W.subIn K (.ref cc_Pacts) (.type "int") = some false)
    (ocm3_Pacts : PySem.W.subIn K (.ref cc_Pacts) (.type "NoneType") = some false)
    (ocm4_Pacts : PySem.W.subIn K (.ref cc_Pacts) (.type "list") = some false)
    (ocha_Pacts : PySem.W.findIn K (.ref cc_Pacts) "__class__" = some (some (.builtin "object.__class__")))
    (ochn_Pacts : PySem.W.specialIn K (.builtin "object.__class__") "__get__" = some (some (.builtin "getset_descriptor.__get__")))
    (ocht_Pacts : PySem.W.takesIn K (.builtin "object.__class__") = some true)
    (ochm_Pacts : PySem.W.mroIn K cc_Pacts (.type "object") = some true)
    (ock1_Pacts : PySem.W.kitOne K (.type "str") (.ref cc_Pacts) = some false)
    (ock2_Pacts : PySem.W.kitOne K (.type "int") (.ref cc_Pacts) = some false)
    (ock3_Pacts : PySem.W.kitOne K (.type "NoneType") (.ref cc_Pacts) = some false)
    (ock4_Pacts : PySem.W.kitOne K (.type "list") (.ref cc_Pacts) = some false)
    (na_Pacts_kept_pairs : PySem.W.findIn K (.ref cc_Pacts) "kept_pairs" = some none)
    (na_Pacts_kept_pacts : PySem.W.findIn K (.ref cc_Pacts) "kept_pacts" = some none)
    (aC_PactError : PySem.W.nsIn K mainGlobals "PactError" = some (some (.ref cc_PactError)))
    (bE_PactError : PySem.W.subIn K (.ref cc_PactError) (.type "BaseException") = some true)
    (hd_PactError : PySem.W.hasDictIn K cc_PactError = true)
    (ty_PactError : PySem.W.typeIn K (.ref cc_PactError) = some (.type "type"))
    (aC_NoWord : PySem.W.nsIn K mainGlobals "NoWord" = some (some (.ref cc_NoWord)))
    (bE_NoWord : PySem.W.subIn K (.ref cc_NoWord) (.type "BaseException") = some true)
    (hd_NoWord : PySem.W.hasDictIn K cc_NoWord = true)
    (ty_NoWord : PySem.W.typeIn K (.ref cc_NoWord) = some (.type "type"))
    (xL_NoWord : K.lookup cc_NoWord = some (excClassObj nm_NoWord qq_NoWord cc_NoWord NN_NoWord bs_NoWord [.ref cc_PactError, .type "ValueError", .type "Exception", .type "BaseException", .type "object"] true sn_NoWord su_NoWord ab_NoWord co_NoWord ddd_NoWord m0_NoWord m1_NoWord m2_NoWord m3_NoWord m5_NoWord "ValueError.__new__"))
    (sa_NoWord : PySem.W.findIn K (.ref cc_NoWord) "__setattr__" = some (some (.builtin "object.__setattr__")))
    (ga_NoWord : PySem.W.findIn K (.ref cc_NoWord) "__getattribute__" = some (some (.builtin "BaseException.__getattribute__")))
    (gg_NoWord : PySem.W.findIn K (.ref cc_NoWord) "__getattr__" = some none)
    (kc_NoWord : PySem.W.keepIn K (.ref cc_NoWord) = true)
    (cc__NoWord : PySem.W.findIn K (.ref cc_NoWord) "__class__" = some (some (.builtin "object.__class__")))
    (mo_NoWord : PySem.W.mroIn K cc_NoWord (.type "object") = some true)
    (na_NoWord_word : PySem.W.findIn K (.ref cc_NoWord) "word" = some none)
    (aC_NoPact : PySem.W.nsIn K mainGlobals "NoPact" = some (some (.ref cc_NoPact)))
    (bE_NoPact : PySem.W.subIn K (.ref cc_NoPact) (.type "BaseException") = some true)
    (hd_NoPact : PySem.W.hasDictIn K cc_NoPact = true)
    (ty_NoPact : PySem.W.typeIn K (.ref cc_NoPact) = some (.type "type"))
    (xL_NoPact : K.lookup cc_NoPact = some (excClassObj nm_NoPact qq_NoPact cc_NoPact NN_NoPact bs_NoPact [.ref cc_PactError, .type "ValueError", .type "Exception", .type "BaseException", .type "object"] true sn_NoPact su_NoPact ab_NoPact co_NoPact ddd_NoPact m0_NoPact m1_NoPact m2_NoPact m3_NoPact m5_NoPact "ValueError.__new__"))
    (sa_NoPact : PySem.W.findIn K (.ref cc_NoPact) "__setattr__" = some (some (.builtin "object.__setattr__")))
    (ga_NoPact : PySem.W.findIn K (.ref cc_NoPact) "__getattribute__" = some (some (.builtin "BaseException.__getattribute__")))
    (gg_NoPact : PySem.W.findIn K (.ref cc_NoPact) "__getattr__" = some none)
    (kc_NoPact : PySem.W.keepIn K (.ref cc_NoPact) = true)
    (cc__NoPact : PySem.W.findIn K (.ref cc_NoPact) "__class__" = some (some (.builtin "object.__class__")))
    (mo_NoPact : PySem.W.mroIn K cc_NoPact (.type "object") = some true)
    (na_NoPact_at : PySem.W.findIn K (.ref cc_NoPact) "at" = some none)
    (aC_NoHelper : PySem.W.nsIn K mainGlobals "NoHelper" = some (some (.ref cc_NoHelper)))
    (bE_NoHelper : PySem.W.subIn K (.ref cc_NoHelper) (.type "BaseException") = some true)
    (hd_NoHelper : PySem.W.hasDictIn K cc_NoHelper = true)
    (ty_NoHelper : PySem.W.typeIn K (.ref cc_NoHelper) = some (.type "type"))
    (xL_NoHelper : K.lookup cc_NoHelper = some (excClassObj nm_NoHelper qq_NoHelper cc_NoHelper NN_NoHelper bs_NoHelper [.ref cc_PactError, .type "ValueError", .type "Exception", .type "BaseException", .type "object"] true sn_NoHelper su_NoHelper ab_NoHelper co_NoHelper ddd_NoHelper m0_NoHelper m1_NoHelper m2_NoHelper m3_NoHelper m5_NoHelper "ValueError.__new__"))
    (sa_NoHelper : PySem.W.findIn K (.ref cc_NoHelper) "__setattr__" = some (some (.builtin "object.__setattr__")))
    (ga_NoHelper : PySem.W.findIn K (.ref cc_NoHelper) "__getattribute__" = some (some (.builtin "BaseException.__getattribute__")))
    (gg_NoHelper : PySem.W.findIn K (.ref cc_NoHelper) "__getattr__" = some none)
    (kc_NoHelper : PySem.W.keepIn K (.ref cc_NoHelper) = true)
    (cc__NoHelper : PySem.W.findIn K (.ref cc_NoHelper) "__class__" = some (some (.builtin "object.__class__")))
    (mo_NoHelper : PySem.W.mroIn K cc_NoHelper (.type "object") = some true)
    (na_NoHelper_name : PySem.W.findIn K (.ref cc_NoHelper) "name" = some none)
    (sGet : PySem.W.specialIn K (.builtin "object.__class__") "__get__" = some (some (.builtin "getset_descriptor.__get__")))
    (tGet : PySem.W.takesIn K (.builtin "object.__class__") = some true)
    (su_NoHelper_NoHelper : PySem.W.subIn K (.ref cc_NoHelper) (.ref cc_NoHelper) = some true)
    (su_NoHelper_PactError : PySem.W.subIn K (.ref cc_NoHelper) (.ref cc_PactError) = some true)
    (su_NoHelper_NoWord : PySem.W.subIn K (.ref cc_NoHelper) (.ref cc_NoWord) = some false)
    (su_NoHelper_ValueError : PySem.W.subIn K (.ref cc_NoHelper) (.type "ValueError") = some true)
    (a_NoWord___init__ : PySem.W.findIn K (.ref cc_NoWord) "__init__" = some (some (.ref ff_NoWord___init__)))
    (i_NoWord___init__ : PySem.W.isFn K (.ref ff_NoWord___init__) = true)
    (l_NoWord___init__ : K.lookup ff_NoWord___init__ = some ⟨oc_NoWord___init__, od_NoWord___init__, .func (PySem.W.fnOf "__init__" "NoWord.__init__" (defArgs s_NoWord___init__) (defBody s_NoWord___init__) (defScope s_NoWord___init__) .none kV_NoWord___init__ dc_NoWord___init__ pm_NoWord___init__ an_NoWord___init__ cd_NoWord___init__ ct_NoWord___init__), sl_NoWord___init__⟩)
    (c_NoWord___init__ : PySem.W.codeIn K cd_NoWord___init__ "NoWord.__init__" = true)
    (k_NoWord___init__ : PySem.W.keepIn K (.ref ff_NoWord___init__) = true)
    (a_NoPact___init__ : PySem.W.findIn K (.ref cc_NoPact) "__init__" = some (some (.ref ff_NoPact___init__)))
    (i_NoPact___init__ : PySem.W.isFn K (.ref ff_NoPact___init__) = true)
    (l_NoPact___init__ : K.lookup ff_NoPact___init__ = some ⟨oc_NoPact___init__, od_NoPact___init__, .func (PySem.W.fnOf "__init__" "NoPact.__init__" (defArgs s_NoPact___init__) (defBody s_NoPact___init__) (defScope s_NoPact___init__) .none kV_NoPact___init__ dc_NoPact___init__ pm_NoPact___init__ an_NoPact___init__ cd_NoPact___init__ ct_NoPact___init__), sl_NoPact___init__⟩)
    (c_NoPact___init__ : PySem.W.codeIn K cd_NoPact___init__ "NoPact.__init__" = true)
    (k_NoPact___init__ : PySem.W.keepIn K (.ref ff_NoPact___init__) = true)
    (a_NoHelper___init__ : PySem.W.findIn K (.ref cc_NoHelper) "__init__" = some (some (.ref ff_NoHelper___init__)))
    (i_NoHelper___init__ : PySem.W.isFn K (.ref ff_NoHelper___init__) = true)
    (l_NoHelper___init__ : K.lookup ff_NoHelper___init__ = some ⟨oc_NoHelper___init__, od_NoHelper___init__, .func (PySem.W.fnOf "__init__" "NoHelper.__init__" (defArgs s_NoHelper___init__) (defBody s_NoHelper___init__) (defScope s_NoHelper___init__) .none kV_NoHelper___init__ dc_NoHelper___init__ pm_NoHelper___init__ an_NoHelper___init__ cd_NoHelper___init__ ct_NoHelper___init__), sl_NoHelper___init__⟩)
    (c_NoHelper___init__ : PySem.W.codeIn K cd_NoHelper___init__ "NoHelper.__init__" = true)
    (k_NoHelper___init__ : PySem.W.keepIn K (.ref ff_NoHelper___init__) = true)
    (a_is_name : PySem.W.nsIn K mainGlobals "is_name" = some (some (.ref ff_is_name)))
    (l_is_name : K.lookup ff_is_name = some ⟨oc_is_name, od_is_name, .func (PySem.W.fnOf "is_name" "is_name" (defArgs s_is_name) (defBody s_is_name) (defScope s_is_name) .none kV_is_name dc_is_name pm_is_name an_is_name cd_is_name ct_is_name), sl_is_name⟩)
    (c_is_name : PySem.W.codeIn K cd_is_name "is_name" = true)
    (k_is_name : PySem.W.keepIn K (.ref ff_is_name) = true)
    (a_Pacts___init__ : PySem.W.findIn K (.ref cc_Pacts) "__init__" = some (some (.ref ff_Pacts___init__)))
    (i_Pacts___init__ : PySem.W.isFn K (.ref ff_Pacts___init__) = true)
    (l_Pacts___init__ : K.lookup ff_Pacts___init__ = some ⟨oc_Pacts___init__, od_Pacts___init__, .func (PySem.W.fnOf "__init__" "Pacts.__init__" (defArgs s_Pacts___init__) (defBody s_Pacts___init__) (defScope s_Pacts___init__) .none kV_Pacts___init__ dc_Pacts___init__ pm_Pacts___init__ an_Pacts___init__ cd_Pacts___init__ ct_Pacts___init__), sl_Pacts___init__⟩)
    (c_Pacts___init__ : PySem.W.codeIn K cd_Pacts___init__ "Pacts.__init__" = true)
    (k_Pacts___init__ : PySem.W.keepIn K (.ref ff_Pacts___init__) = true)
    (a_Pacts_fits_pair : PySem.W.findIn K (.ref cc_Pacts) "fits_pair" = some (some (.ref ff_Pacts_fits_pair)))
    (i_Pacts_fits_pair : PySem.W.isFn K (.ref ff_Pacts_fits_pair) = true)
    (l_Pacts_fits_pair : K.lookup ff_Pacts_fits_pair = some ⟨oc_Pacts_fits_pair, od_Pacts_fits_pair, .func (PySem.W.fnOf "fits_pair" "Pacts.fits_pair" (defArgs s_Pacts_fits_pair) (defBody s_Pacts_fits_pair) (defScope s_Pacts_fits_pair) .none kV_Pacts_fits_pair dc_Pacts_fits_pair pm_Pacts_fits_pair an_Pacts_fits_pair cd_Pacts_fits_pair ct_Pacts_fits_pair), sl_Pacts_fits_pair⟩)
    (c_Pacts_fits_pair : PySem.W.codeIn K cd_Pacts_fits_pair "Pacts.fits_pair" = true)
    (k_Pacts_fits_pair : PySem.W.keepIn K (.ref ff_Pacts_fits_pair) = true)
    (a_Pacts_fits_helper : PySem.W.findIn K (.ref cc_Pacts) "fits_helper" = some (some (.ref ff_Pacts_fits_helper)))
    (i_Pacts_fits_helper : PySem.W.isFn K (.ref ff_Pacts_fits_helper) = true)
    (l_Pacts_fits_helper : K.lookup ff_Pacts_fits_helper = some ⟨oc_Pacts_fits_helper, od_Pacts_fits_helper, .func (PySem.W.fnOf "fits_helper" "Pacts.fits_helper" (defArgs s_Pacts_fits_helper) (defBody s_Pacts_fits_helper) (defScope s_Pacts_fits_helper) .none kV_Pacts_fits_helper dc_Pacts_fits_helper pm_Pacts_fits_helper an_Pacts_fits_helper cd_Pacts_fits_helper ct_Pacts_fits_helper), sl_Pacts_fits_helper⟩)
    (c_Pacts_fits_helper : PySem.W.codeIn K cd_Pacts_fits_helper "Pacts.fits_helper" = true)
    (k_Pacts_fits_helper : PySem.W.keepIn K (.ref ff_Pacts_fits_helper) = true)
    (a_Pacts_words_called : PySem.W.findIn K (.ref cc_Pacts) "words_called" = some (some (.ref ff_Pacts_words_called)))
    (i_Pacts_words_called : PySem.W.isFn K (.ref ff_Pacts_words_called) = true)
    (l_Pacts_words_called : K.lookup ff_Pacts_words_called = some ⟨oc_Pacts_words_called, od_Pacts_words_called, .func (PySem.W.fnOf "words_called" "Pacts.words_called" (defArgs s_Pacts_words_called) (defBody s_Pacts_words_called) (defScope s_Pacts_words_called) .none kV_Pacts_words_called dc_Pacts_words_called pm_Pacts_words_called an_Pacts_words_called cd_Pacts_words_called ct_Pacts_words_called), sl_Pacts_words_called⟩)
    (c_Pacts_words_called : PySem.W.codeIn K cd_Pacts_words_called "Pacts.words_called" = true)
    (k_Pacts_words_called : PySem.W.keepIn K (.ref ff_Pacts_words_called) = true)
    (a_Pacts_pair_of : PySem.W.findIn K (.ref cc_Pacts) "pair_of" = some (some (.ref ff_Pacts_pair_of)))
    (i_Pacts_pair_of : PySem.W.isFn K (.ref ff_Pacts_pair_of) = true)
    (l_Pacts_pair_of : K.lookup ff_Pacts_pair_of = some ⟨oc_Pacts_pair_of, od_Pacts_pair_of, .func (PySem.W.fnOf "pair_of" "Pacts.pair_of" (defArgs s_Pacts_pair_of) (defBody s_Pacts_pair_of) (defScope s_Pacts_pair_of) .none kV_Pacts_pair_of dc_Pacts_pair_of pm_Pacts_pair_of an_Pacts_pair_of cd_Pacts_pair_of ct_Pacts_pair_of), sl_Pacts_pair_of⟩)
    (c_Pacts_pair_of : PySem.W.codeIn K cd_Pacts_pair_of "Pacts.pair_of" = true)
    (k_Pacts_pair_of : PySem.W.keepIn K (.ref ff_Pacts_pair_of) = true)
    (a_Pacts_pairs : PySem.W.findIn K (.ref cc_Pacts) "pairs" = some (some (.ref ff_Pacts_pairs)))
    (i_Pacts_pairs : PySem.W.isFn K (.ref ff_Pacts_pairs) = true)
    (l_Pacts_pairs : K.lookup ff_Pacts_pairs = some ⟨oc_Pacts_pairs, od_Pacts_pairs, .func (PySem.W.fnOf "pairs" "Pacts.pairs" (defArgs s_Pacts_pairs) (defBody s_Pacts_pairs) (defScope s_Pacts_pairs) .none kV_Pacts_pairs dc_Pacts_pairs pm_Pacts_pairs an_Pacts_pairs cd_Pacts_pairs ct_Pacts_pairs), sl_Pacts_pairs⟩)
    (c_Pacts_pairs : PySem.W.codeIn K cd_Pacts_pairs "Pacts.pairs" = true)
    (k_Pacts_pairs : PySem.W.keepIn K (.ref ff_Pacts_pairs) = true)
    (a_Pacts_names : PySem.W.findIn K (.ref cc_Pacts) "names" = some (some (.ref ff_Pacts_names)))
    (i_Pacts_names : PySem.W.isFn K (.ref ff_Pacts_names) = true)
    (l_Pacts_names : K.lookup ff_Pacts_names = some ⟨oc_Pacts_names, od_Pacts_names, .func (PySem.W.fnOf "names" "Pacts.names" (defArgs s_Pacts_names) (defBody s_Pacts_names) (defScope s_Pacts_names) .none kV_Pacts_names dc_Pacts_names pm_Pacts_names an_Pacts_names cd_Pacts_names ct_Pacts_names), sl_Pacts_names⟩)
    (c_Pacts_names : PySem.W.codeIn K cd_Pacts_names "Pacts.names" = true)
    (k_Pacts_names : PySem.W.keepIn K (.ref ff_Pacts_names) = true)
    (a_Pacts_pact : PySem.W.findIn K (.ref cc_Pacts) "pact" = some (some (.ref ff_Pacts_pact)))
    (i_Pacts_pact : PySem.W.isFn K (.ref ff_Pacts_pact) = true)
    (l_Pacts_pact : K.lookup ff_Pacts_pact = some ⟨oc_Pacts_pact, od_Pacts_pact, .func (PySem.W.fnOf "pact" "Pacts.pact" (defArgs s_Pacts_pact) (defBody s_Pacts_pact) (defScope s_Pacts_pact) .none kV_Pacts_pact dc_Pacts_pact pm_Pacts_pact an_Pacts_pact cd_Pacts_pact ct_Pacts_pact), sl_Pacts_pact⟩)
    (c_Pacts_pact : PySem.W.codeIn K cd_Pacts_pact "Pacts.pact" = true)
    (k_Pacts_pact : PySem.W.keepIn K (.ref ff_Pacts_pact) = true)
    (a_Pacts_over : PySem.W.findIn K (.ref cc_Pacts) "over" = some (some (.ref ff_Pacts_over)))
    (i_Pacts_over : PySem.W.isFn K (.ref ff_Pacts_over) = true)
    (l_Pacts_over : K.lookup ff_Pacts_over = some ⟨oc_Pacts_over, od_Pacts_over, .func (PySem.W.fnOf "over" "Pacts.over" (defArgs s_Pacts_over) (defBody s_Pacts_over) (defScope s_Pacts_over) .none kV_Pacts_over dc_Pacts_over pm_Pacts_over an_Pacts_over cd_Pacts_over ct_Pacts_over), sl_Pacts_over⟩)
    (c_Pacts_over : PySem.W.codeIn K cd_Pacts_over "Pacts.over" = true)
    (k_Pacts_over : PySem.W.keepIn K (.ref ff_Pacts_over) = true)
    (a_Pacts_errors : PySem.W.findIn K (.ref cc_Pacts) "errors" = some (some (.ref ff_Pacts_errors)))
    (i_Pacts_errors : PySem.W.isFn K (.ref ff_Pacts_errors) = true)
    (l_Pacts_errors : K.lookup ff_Pacts_errors = some ⟨oc_Pacts_errors, od_Pacts_errors, .func (PySem.W.fnOf "errors" "Pacts.errors" (defArgs s_Pacts_errors) (defBody s_Pacts_errors) (defScope s_Pacts_errors) .none kV_Pacts_errors dc_Pacts_errors pm_Pacts_errors an_Pacts_errors cd_Pacts_errors ct_Pacts_errors), sl_Pacts_errors⟩)
    (c_Pacts_errors : PySem.W.codeIn K cd_Pacts_errors "Pacts.errors" = true)
    (k_Pacts_errors : PySem.W.keepIn K (.ref ff_Pacts_errors) = true)
    (a_Pacts___len__ : PySem.W.findIn K (.ref cc_Pacts) "__len__" = some (some (.ref ff_Pacts___len__)))
    (i_Pacts___len__ : PySem.W.isFn K (.ref ff_Pacts___len__) = true)
    (l_Pacts___len__ : K.lookup ff_Pacts___len__ = some ⟨oc_Pacts___len__, od_Pacts___len__, .func (PySem.W.fnOf "__len__" "Pacts.__len__" (defArgs s_Pacts___len__) (defBody s_Pacts___len__) (defScope s_Pacts___len__) .none kV_Pacts___len__ dc_Pacts___len__ pm_Pacts___len__ an_Pacts___len__ cd_Pacts___len__ ct_Pacts___len__), sl_Pacts___len__⟩)
    (c_Pacts___len__ : PySem.W.codeIn K cd_Pacts___len__ "Pacts.__len__" = true)
    (k_Pacts___len__ : PySem.W.keepIn K (.ref ff_Pacts___len__) = true)
    (a_Pacts___eq__ : PySem.W.findIn K (.ref cc_Pacts) "__eq__" = some (some (.ref ff_Pacts___eq__)))
    (i_Pacts___eq__ : PySem.W.isFn K (.ref ff_Pacts___eq__) = true)
    (l_Pacts___eq__ : K.lookup ff_Pacts___eq__ = some ⟨oc_Pacts___eq__, od_Pacts___eq__, .func (PySem.W.fnOf "__eq__" "Pacts.__eq__" (defArgs s_Pacts___eq__) (defBody s_Pacts___eq__) (defScope s_Pacts___eq__) .none kV_Pacts___eq__ dc_Pacts___eq__ pm_Pacts___eq__ an_Pacts___eq__ cd_Pacts___eq__ ct_Pacts___eq__), sl_Pacts___eq__⟩)
    (c_Pacts___eq__ : PySem.W.codeIn K cd_Pacts___eq__ "Pacts.__eq__" = true)
    (k_Pacts___eq__ : PySem.W.keepIn K (.ref ff_Pacts___eq__) = true)
    (a_Pacts_lines_told : PySem.W.findIn K (.ref cc_Pacts) "lines_told" = some (some (.ref ff_Pacts_lines_told)))
    (i_Pacts_lines_told : PySem.W.isFn K (.ref ff_Pacts_lines_told) = true)
    (l_Pacts_lines_told : K.lookup ff_Pacts_lines_told = some ⟨oc_Pacts_lines_told, od_Pacts_lines_told, .func (PySem.W.fnOf "lines_told" "Pacts.lines_told" (defArgs s_Pacts_lines_told) (defBody s_Pacts_lines_told) (defScope s_Pacts_lines_told) .none kV_Pacts_lines_told dc_Pacts_lines_told pm_Pacts_lines_told an_Pacts_lines_told cd_Pacts_lines_told ct_Pacts_lines_told), sl_Pacts_lines_told⟩)
    (c_Pacts_lines_told : PySem.W.codeIn K cd_Pacts_lines_told "Pacts.lines_told" = true)
    (k_Pacts_lines_told : PySem.W.keepIn K (.ref ff_Pacts_lines_told) = true)
    (a_Pacts___str__ : PySem.W.findIn K (.ref cc_Pacts) "__str__" = some (some (.ref ff_Pacts___str__)))
    (i_Pacts___str__ : PySem.W.isFn K (.ref ff_Pacts___str__) = true)
    (l_Pacts___str__ : K.lookup ff_Pacts___str__ = some ⟨oc_Pacts___str__, od_Pacts___str__, .func (PySem.W.fnOf "__str__" "Pacts.__str__" (defArgs s_Pacts___str__) (defBody s_Pacts___str__) (defScope s_Pacts___str__) .none kV_Pacts___str__ dc_Pacts___str__ pm_Pacts___str__ an_Pacts___str__ cd_Pacts___str__ ct_Pacts___str__), sl_Pacts___str__⟩)
    (c_Pacts___str__ : PySem.W.codeIn K cd_Pacts___str__ "Pacts.__str__" = true)
    (k_Pacts___str__ : PySem.W.keepIn K (.ref ff_Pacts___str__) = true)
    (a_pair_line : PySem.W.nsIn K mainGlobals "pair_line" = some (some (.ref ff_pair_line)))
    (l_pair_line : K.lookup ff_pair_line = some ⟨oc_pair_line, od_pair_line, .func (PySem.W.fnOf "pair_line" "pair_line" (defArgs s_pair_line) (defBody s_pair_line) (defScope s_pair_line) .none kV_pair_line dc_pair_line pm_pair_line an_pair_line cd_pair_line ct_pair_line), sl_pair_line⟩)
    (c_pair_line : PySem.W.codeIn K cd_pair_line "pair_line" = true)
    (k_pair_line : PySem.W.keepIn K (.ref ff_pair_line) = true)
    (a_helper_line : PySem.W.nsIn K mainGlobals "helper_line" = some (some (.ref ff_helper_line)))
    (l_helper_line : K.lookup ff_helper_line = some ⟨oc_helper_line, od_helper_line, .func (PySem.W.fnOf "helper_line" "helper_line" (defArgs s_helper_line) (defBody s_helper_line) (defScope s_helper_line) .none kV_helper_line dc_helper_line pm_helper_line an_helper_line cd_helper_line ct_helper_line), sl_helper_line⟩)
    (c_helper_line : PySem.W.codeIn K cd_helper_line "helper_line" = true)
    (k_helper_line : PySem.W.keepIn K (.ref ff_helper_line) = true)
    (a__law_box : PySem.W.nsIn K mainGlobals "_law_box" = some (some (.ref ff__law_box)))
    (l__law_box : K.lookup ff__law_box = some ⟨oc__law_box, od__law_box, .func (PySem.W.fnOf "_law_box" "_law_box" (defArgs s__law_box) (defBody s__law_box) (defScope s__law_box) .none kV__law_box dc__law_box pm__law_box an__law_box cd__law_box ct__law_box), sl__law_box⟩)
    (c__law_box : PySem.W.codeIn K cd__law_box "_law_box" = true)
    (k__law_box : PySem.W.keepIn K (.ref ff__law_box) = true)
    (a__law_mixed : PySem.W.nsIn K mainGlobals "_law_mixed" = some (some (.ref ff__law_mixed)))
    (l__law_mixed : K.lookup ff__law_mixed = some ⟨oc__law_mixed, od__law_mixed, .func (PySem.W.fnOf "_law_mixed" "_law_mixed" (defArgs s__law_mixed) (defBody s__law_mixed) (defScope s__law_mixed) .none kV__law_mixed dc__law_mixed pm__law_mixed an__law_mixed cd__law_mixed ct__law_mixed), sl__law_mixed⟩)
    (c__law_mixed : PySem.W.codeIn K cd__law_mixed "_law_mixed" = true)
    (k__law_mixed : PySem.W.keepIn K (.ref ff__law_mixed) = true)
    (a__law_take : PySem.W.nsIn K mainGlobals "_law_take" = some (some (.ref ff__law_take)))
    (l__law_take : K.lookup ff__law_take = some ⟨oc__law_take, od__law_take, .func (PySem.W.fnOf "_law_take" "_law_take" (defArgs s__law_take) (defBody s__law_take) (defScope s__law_take) .none kV__law_take dc__law_take pm__law_take an__law_take cd__law_take ct__law_take), sl__law_take⟩)
    (c__law_take : PySem.W.codeIn K cd__law_take "_law_take" = true)
    (k__law_take : PySem.W.keepIn K (.ref ff__law_take) = true)
    (a__law_name : PySem.W.nsIn K mainGlobals "_law_name" = some (some (.ref ff__law_name)))
    (l__law_name : K.lookup ff__law_name = some ⟨oc__law_name, od__law_name, .func (PySem.W.fnOf "_law_name" "_law_name" (defArgs s__law_name) (defBody s__law_name) (defScope s__law_name) .none kV__law_name dc__law_name pm__law_name an__law_name cd__law_name ct__law_name), sl__law_name⟩)
    (c__law_name : PySem.W.codeIn K cd__law_name "_law_name" = true)
    (k__law_name : PySem.W.keepIn K (.ref ff__law_name) = true)
    (a__law_names : PySem.W.nsIn K mainGlobals "_law_names" = some (some (.ref ff__law_names)))
    (l__law_names : K.lookup ff__law_names = some ⟨oc__law_names, od__law_names, .func (PySem.W.fnOf "_law_names" "_law_names" (defArgs s__law_names) (defBody s__law_names) (defScope s__law_names) .none kV__law_names dc__law_names pm__law_names an__law_names cd__law_names ct__law_names), sl__law_names⟩)
    (c__law_names : PySem.W.codeIn K cd__law_names "_law_names" = true)
    (k__law_names : PySem.W.keepIn K (.ref ff__law_names) = true)
    (a__law_pairs : PySem.W.nsIn K mainGlobals "_law_pairs" = some (some (.ref ff__law_pairs)))
    (l__law_pairs : K.lookup ff__law_pairs = some ⟨oc__law_pairs, od__law_pairs, .func (PySem.W.fnOf "_law_pairs" "_law_pairs" (defArgs s__law_pairs) (defBody s__law_pairs) (defScope s__law_pairs) .none kV__law_pairs dc__law_pairs pm__law_pairs an__law_pairs cd__law_pairs ct__law_pairs), sl__law_pairs⟩)
    (c__law_pairs : PySem.W.codeIn K cd__law_pairs "_law_pairs" = true)
    (k__law_pairs : PySem.W.keepIn K (.ref ff__law_pairs) = true)
    (a__law_some : PySem.W.nsIn K mainGlobals "_law_some" = some (some (.ref ff__law_some)))
    (l__law_some : K.lookup ff__law_some = some ⟨oc__law_some, od__law_some, .func (PySem.W.fnOf "_law_some" "_law_some" (defArgs s__law_some) (defBody s__law_some) (defScope s__law_some) .none kV__law_some dc__law_some pm__law_some an__law_some cd__law_some ct__law_some), sl__law_some⟩)
    (c__law_some : PySem.W.codeIn K cd__law_some "_law_some" = true)
    (k__law_some : PySem.W.keepIn K (.ref ff__law_some) = true)
    (a__law_helpers : PySem.W.nsIn K mainGlobals "_law_helpers" = some (some (.ref ff__law_helpers)))
    (l__law_helpers : K.lookup ff__law_helpers = some ⟨oc__law_helpers, od__law_helpers, .func (PySem.W.fnOf "_law_helpers" "_law_helpers" (defArgs s__law_helpers) (defBody s__law_helpers) (defScope s__law_helpers) .none kV__law_helpers dc__law_helpers pm__law_helpers an__law_helpers cd__law_helpers ct__law_helpers), sl__law_helpers⟩)
    (c__law_helpers : PySem.W.codeIn K cd__law_helpers "_law_helpers" = true)
    (k__law_helpers : PySem.W.keepIn K (.ref ff__law_helpers) = true)
    (a__law_crossed : PySem.W.nsIn K mainGlobals "_law_crossed" = some (some (.ref ff__law_crossed)))
    (l__law_crossed : K.lookup ff__law_crossed = some ⟨oc__law_crossed, od__law_crossed, .func (PySem.W.fnOf "_law_crossed" "_law_crossed" (defArgs s__law_crossed) (defBody s__law_crossed) (defScope s__law_crossed) .none kV__law_crossed dc__law_crossed pm__law_crossed an__law_crossed cd__law_crossed ct__law_crossed), sl__law_crossed⟩)
    (c__law_crossed : PySem.W.codeIn K cd__law_crossed "_law_crossed" = true)
    (k__law_crossed : PySem.W.keepIn K (.ref ff__law_crossed) = true)
    (a__law_told : PySem.W.nsIn K mainGlobals "_law_told" = some (some (.ref ff__law_told)))
    (l__law_told : K.lookup ff__law_told = some ⟨oc__law_told, od__law_told, .func (PySem.W.fnOf "_law_told" "_law_told" (defArgs s__law_told) (defBody s__law_told) (defScope s__law_told) .none kV__law_told dc__law_told pm__law_told an__law_told cd__law_told ct__law_told), sl__law_told⟩)
    (c__law_told : PySem.W.codeIn K cd__law_told "_law_told" = true)
    (k__law_told : PySem.W.keepIn K (.ref ff__law_told) = true)
    (a__law_refused : PySem.W.nsIn K mainGlobals "_law_refused" = some (some (.ref ff__law_refused)))
    (l__law_refused : K.lookup ff__law_refused = some ⟨oc__law_refused, od__law_refused, .func (PySem.W.fnOf "_law_refused" "_law_refused" (defArgs s__law_refused) (defBody s__law_refused) (defScope s__law_refused) .none kV__law_refused dc__law_refused pm__law_refused an__law_refused cd__law_refused ct__law_refused), sl__law_refused⟩)
    (c__law_refused : PySem.W.codeIn K cd__law_refused "_law_refused" = true)
    (k__law_refused : PySem.W.keepIn K (.ref ff__law_refused) = true)
    (a__law_row_otherwise : PySem.W.nsIn K mainGlobals "_law_row_otherwise" = some (some (.ref ff__law_row_otherwise)))
    (l__law_row_otherwise : K.lookup ff__law_row_otherwise = some ⟨oc__law_row_otherwise, od__law_row_otherwise, .func (PySem.W.fnOf "_law_row_otherwise" "_law_row_otherwise" (defArgs s__law_row_otherwise) (defBody s__law_row_otherwise) (defScope s__law_row_otherwise) .none kV__law_row_otherwise dc__law_row_otherwise pm__law_row_otherwise an__law_row_otherwise cd__law_row_otherwise ct__law_row_otherwise), sl__law_row_otherwise⟩)
    (c__law_row_otherwise : PySem.W.codeIn K cd__law_row_otherwise "_law_row_otherwise" = true)
    (k__law_row_otherwise : PySem.W.keepIn K (.ref ff__law_row_otherwise) = true)
    (a__law_pair_otherwise : PySem.W.nsIn K mainGlobals "_law_pair_otherwise" = some (some (.ref ff__law_pair_otherwise)))
    (l__law_pair_otherwise : K.lookup ff__law_pair_otherwise = some ⟨oc__law_pair_otherwise, od__law_pair_otherwise, .func (PySem.W.fnOf "_law_pair_otherwise" "_law_pair_otherwise" (defArgs s__law_pair_otherwise) (defBody s__law_pair_otherwise) (defScope s__law_pair_otherwise) .none kV__law_pair_otherwise dc__law_pair_otherwise pm__law_pair_otherwise an__law_pair_otherwise cd__law_pair_otherwise ct__law_pair_otherwise), sl__law_pair_otherwise⟩)
    (c__law_pair_otherwise : PySem.W.codeIn K cd__law_pair_otherwise "_law_pair_otherwise" = true)
    (k__law_pair_otherwise : PySem.W.keepIn K (.ref ff__law_pair_otherwise) = true)
    (a__law_otherwise : PySem.W.nsIn K mainGlobals "_law_otherwise" = some (some (.ref ff__law_otherwise)))
    (l__law_otherwise : K.lookup ff__law_otherwise = some ⟨oc__law_otherwise, od__law_otherwise, .func (PySem.W.fnOf "_law_otherwise" "_law_otherwise" (defArgs s__law_otherwise) (defBody s__law_otherwise) (defScope s__law_otherwise) .none kV__law_otherwise dc__law_otherwise pm__law_otherwise an__law_otherwise cd__law_otherwise ct__law_otherwise), sl__law_otherwise⟩)
    (c__law_otherwise : PySem.W.codeIn K cd__law_otherwise "_law_otherwise" = true)
    (k__law_otherwise : PySem.W.keepIn K (.ref ff__law_otherwise) = true)
    (a_law : PySem.W.nsIn K mainGlobals "law" = some (some (.ref ff_law)))
    (l_law : K.lookup ff_law = some ⟨oc_law, od_law, .func (PySem.W.fnOf "law" "law" (defArgs s_law) (defBody s_law) (defScope s_law) .none kV_law dc_law pm_law an_law cd_law ct_law), sl_law⟩)
    (c_law : PySem.W.codeIn K cd_law "law" = true)
    (k_law : PySem.W.keepIn K (.ref ff_law) = true)
    (ti_NoWord : PySem.W.typeIn K (.ref ff_NoWord___init__) = some (.type "function"))
    (ti_NoPact : PySem.W.typeIn K (.ref ff_NoPact___init__) = some (.type "function"))
    (ti_NoHelper : PySem.W.typeIn K (.ref ff_NoHelper___init__) = some (.type "function"))
    (z_all : PySem.W.nsIn K mainGlobals "all" = some none)
    (z_len : PySem.W.nsIn K mainGlobals "len" = some none)
    (z_enumerate : PySem.W.nsIn K mainGlobals "enumerate" = some none)
    (z_any : PySem.W.nsIn K mainGlobals "any" = some none)
    (z_set : PySem.W.nsIn K mainGlobals "set" = some none)
    (z_list : PySem.W.nsIn K mainGlobals "list" = some none)
    (z_isinstance : PySem.W.nsIn K mainGlobals "isinstance" = some none)
    (z_str : PySem.W.nsIn K mainGlobals "str" = some none)
    (z_range : PySem.W.nsIn K mainGlobals "range" = some none)
    (z_zip : PySem.W.nsIn K mainGlobals "zip" = some none)
    (z_min : PySem.W.nsIn K mainGlobals "min" = some none)
    (z_tuple : PySem.W.nsIn K mainGlobals "tuple" = some none)
    (z_bool : PySem.W.nsIn K mainGlobals "bool" = some none)
    (z_ValueError : PySem.W.nsIn K mainGlobals "ValueError" = some none)
    (z_int : PySem.W.nsIn K mainGlobals "int" = some none)
    (g_LETTERS : PySem.W.nsIn K mainGlobals "LETTERS" = some (some (.str "abcdefghijklmnopqrstuvwxyz" tt_LETTERS)))
    (g_MOST : PySem.W.nsIn K mainGlobals "MOST" = some (some (.int 8 tt_MOST)))
    (g_MOST_PAIRS : PySem.W.nsIn K mainGlobals "MOST_PAIRS" = some (some (.int 6 tt_MOST_PAIRS)))
    (g_MOST_HELPERS : PySem.W.nsIn K mainGlobals "MOST_HELPERS" = some (some (.int 4 tt_MOST_HELPERS)))
    (g_MOST_TAKES : PySem.W.nsIn K mainGlobals "MOST_TAKES" = some (some (.int 3 tt_MOST_TAKES)))
    (g_MOST_THROWS : PySem.W.nsIn K mainGlobals "MOST_THROWS" = some (some (.int 4 tt_MOST_THROWS)))
    (g_HOWS : PySem.W.nsIn K mainGlobals "HOWS" = some (some (.ref kk_HOWS)))
    (tl_HOWS : K.lookup kk_HOWS = some ⟨.type "tuple", kd_HOWS, .seq #[.str "lent" kt0_HOWS, .str "given" kt1_HOWS] kn_HOWS, ks_HOWS⟩)
    : ∃ a : Ad, Txt K mg a := by
  have F_NoWord___init__ := fun_mk (st := s_NoWord___init__) l_NoWord___init__ c_NoWord___init__ k_NoWord___init__
  have b_NoWord___init__ := F_NoWord___init__.binds (ps := ["self", "word"]) fun _ _ _ _ _ _ us hl => match us, hl with | [_, _], _ => rfl
  have F_NoPact___init__ := fun_mk (st := s_NoPact___init__) l_NoPact___init__ c_NoPact___init__ k_NoPact___init__
  have b_NoPact___init__ := F_NoPact___init__.binds (ps := ["self", "at"]) fun _ _ _ _ _ _ us hl => match us, hl with | [_, _], _ => rfl
  have F_NoHelper___init__ := fun_mk (st := s_NoHelper___init__) l_NoHelper___init__ c_NoHelper___init__ k_NoHelper___init__
  have b_NoHelper___init__ := F_NoHelper___init__.binds (ps := ["self", "name"]) fun _ _ _ _ _ _ us hl => match us, hl with | [_, _], _ => rfl
  have F_is_name := fun_mk (st := s_is_name) l_is_name c_is_name k_is_name
  have b_is_name := F_is_name.binds (ps := ["word"]) fun _ _ _ _ _ _ us hl => match us, hl with | [_], _ => rfl
  have F_Pacts___init__ := fun_mk (st := s_Pacts___init__) l_Pacts___init__ c_Pacts___init__ k_Pacts___init__
  have b_Pacts___init__ := F_Pacts___init__.binds (ps := ["self", "pairs", "helpers"]) fun _ _ _ _ _ _ us hl => match us, hl with | [_, _, _], _ => rfl
  have F_Pacts_fits_pair := fun_mk (st := s_Pacts_fits_pair) l_Pacts_fits_pair c_Pacts_fits_pair k_Pacts_fits_pair
  have b_Pacts_fits_pair := F_Pacts_fits_pair.binds (ps := ["self", "pair"]) fun _ _ _ _ _ _ us hl => match us, hl with | [_, _], _ => rfl
  have F_Pacts_fits_helper := fun_mk (st := s_Pacts_fits_helper) l_Pacts_fits_helper c_Pacts_fits_helper k_Pacts_fits_helper
  have b_Pacts_fits_helper := F_Pacts_fits_helper.binds (ps := ["self", "helper"]) fun _ _ _ _ _ _ us hl => match us, hl with | [_, _], _ => rfl
  have F_Pacts_words_called := fun_mk (st := s_Pacts_words_called) l_Pacts_words_called c_Pacts_words_called k_Pacts_words_called
  have b_Pacts_words_called := F_Pacts_words_called.binds (ps := ["self", "side"]) fun _ _ _ _ _ _ us hl => match us, hl with | [_, _], _ => rfl
  have F_Pacts_pair_of := fun_mk (st := s_Pacts_pair_of) l_Pacts_pair_of c_Pacts_pair_of k_Pacts_pair_of
  have b_Pacts_pair_of := F_Pacts_pair_of.binds (ps := ["self", "word", "side"]) fun _ _ _ _ _ _ us hl => match us, hl with | [_, _, _], _ => rfl
  have F_Pacts_pairs := fun_mk (st := s_Pacts_pairs) l_Pacts_pairs c_Pacts_pairs k_Pacts_pairs
  have b_Pacts_pairs := F_Pacts_pairs.binds (ps := ["self"]) fun _ _ _ _ _ _ us hl => match us, hl with | [_], _ => rfl
  have F_Pacts_names := fun_mk (st := s_Pacts_names) l_Pacts_names c_Pacts_names k_Pacts_names
  have b_Pacts_names := F_Pacts_names.binds (ps := ["self", "side"]) fun _ _ _ _ _ _ us hl => match us, hl with | [_, _], _ => rfl
  have F_Pacts_pact := fun_mk (st := s_Pacts_pact) l_Pacts_pact c_Pacts_pact k_Pacts_pact
  have b_Pacts_pact := F_Pacts_pact.binds (ps := ["self", "name"]) fun _ _ _ _ _ _ us hl => match us, hl with | [_, _], _ => rfl
  have F_Pacts_over := fun_mk (st := s_Pacts_over) l_Pacts_over c_Pacts_over k_Pacts_over
  have F_Pacts_errors := fun_mk (st := s_Pacts_errors) l_Pacts_errors c_Pacts_errors k_Pacts_errors
  have F_Pacts___len__ := fun_mk (st := s_Pacts___len__) l_Pacts___len__ c_Pacts___len__ k_Pacts___len__
  have b_Pacts___len__ := F_Pacts___len__.binds (ps := ["self"]) fun _ _ _ _ _ _ us hl => match us, hl with | [_], _ => rfl
  have F_Pacts___eq__ := fun_mk (st := s_Pacts___eq__) l_Pacts___eq__ c_Pacts___eq__ k_Pacts___eq__
  have b_Pacts___eq__ := F_Pacts___eq__.binds (ps := ["self", "other"]) fun _ _ _ _ _ _ us hl => match us, hl with | [_, _], _ => rfl
  have F_Pacts_lines_told := fun_mk (st := s_Pacts_lines_told) l_Pacts_lines_told c_Pacts_lines_told k_Pacts_lines_told
  have b_Pacts_lines_told := F_Pacts_lines_told.binds (ps := ["self"]) fun _ _ _ _ _ _ us hl => match us, hl with | [_], _ => rfl
  have F_Pacts___str__ := fun_mk (st := s_Pacts___str__) l_Pacts___str__ c_Pacts___str__ k_Pacts___str__
  have b_Pacts___str__ := F_Pacts___str__.binds (ps := ["self"]) fun _ _ _ _ _ _ us hl => match us, hl with | [_], _ => rfl
  have F_pair_line := fun_mk (st := s_pair_line) l_pair_line c_pair_line k_pair_line
  have b_pair_line := F_pair_line.binds (ps := ["pair"]) fun _ _ _ _ _ _ us hl => match us, hl with | [_], _ => rfl
  have F_helper_line := fun_mk (st := s_helper_line) l_helper_line c_helper_line k_helper_line
  have b_helper_line := F_helper_line.binds (ps := ["pact"]) fun _ _ _ _ _ _ us hl => match us, hl with | [_], _ => rfl
  have F__law_box := fun_mk (st := s__law_box) l__law_box c__law_box k__law_box
  have b__law_box := F__law_box.binds (ps := ["_law_script"]) fun _ _ _ _ _ _ us hl => match us, hl with | [_], _ => rfl
  have F__law_mixed := fun_mk (st := s__law_mixed) l__law_mixed c__law_mixed k__law_mixed
  have b__law_mixed := F__law_mixed.binds (ps := ["_law_cell", "_law_k"]) fun _ _ _ _ _ _ us hl => match us, hl with | [_, _], _ => rfl
  have F__law_take := fun_mk (st := s__law_take) l__law_take c__law_take k__law_take
  have b__law_take := F__law_take.binds (ps := ["_law_box_here", "_law_size"]) fun _ _ _ _ _ _ us hl => match us, hl with | [_, _], _ => rfl
  have F__law_name := fun_mk (st := s__law_name) l__law_name c__law_name k__law_name
  have b__law_name := F__law_name.binds (ps := ["_law_box_here"]) fun _ _ _ _ _ _ us hl => match us, hl with | [_], _ => rfl
  have F__law_names := fun_mk (st := s__law_names) l__law_names c__law_names k__law_names
  have b__law_names := F__law_names.binds (ps := ["_law_box_here", "_law_many"]) fun _ _ _ _ _ _ us hl => match us, hl with | [_, _], _ => rfl
  have F__law_pairs := fun_mk (st := s__law_pairs) l__law_pairs c__law_pairs k__law_pairs
  have b__law_pairs := F__law_pairs.binds (ps := ["_law_box_here", "_law_most"]) fun _ _ _ _ _ _ us hl => match us, hl with | [_, _], _ => rfl
  have F__law_some := fun_mk (st := s__law_some) l__law_some c__law_some k__law_some
  have b__law_some := F__law_some.binds (ps := ["_law_box_here", "_law_things", "_law_most"]) fun _ _ _ _ _ _ us hl => match us, hl with | [_, _, _], _ => rfl
  have F__law_helpers := fun_mk (st := s__law_helpers) l__law_helpers c__law_helpers k__law_helpers
  have b__law_helpers := F__law_helpers.binds (ps := ["_law_box_here", "_law_pairs_here"]) fun _ _ _ _ _ _ us hl => match us, hl with | [_, _], _ => rfl
  have F__law_crossed := fun_mk (st := s__law_crossed) l__law_crossed c__law_crossed k__law_crossed
  have b__law_crossed := F__law_crossed.binds (ps := ["_law_pairs_here", "_law_helper", "_law_team"]) fun _ _ _ _ _ _ us hl => match us, hl with | [_, _, _], _ => rfl
  have F__law_told := fun_mk (st := s__law_told) l__law_told c__law_told k__law_told
  have b__law_told := F__law_told.binds (ps := ["_law_pacts", "_law_pairs_here", "_law_crew"]) fun _ _ _ _ _ _ us hl => match us, hl with | [_, _, _], _ => rfl
  have F__law_refused := fun_mk (st := s__law_refused) l__law_refused c__law_refused k__law_refused
  have b__law_refused := F__law_refused.binds (ps := ["_law_pacts", "_law_who"]) fun _ _ _ _ _ _ us hl => match us, hl with | [_, _], _ => rfl
  have F__law_row_otherwise := fun_mk (st := s__law_row_otherwise) l__law_row_otherwise c__law_row_otherwise k__law_row_otherwise
  have b__law_row_otherwise := F__law_row_otherwise.binds (ps := ["_law_box_here", "_law_helper"]) fun _ _ _ _ _ _ us hl => match us, hl with | [_, _], _ => rfl
  have F__law_pair_otherwise := fun_mk (st := s__law_pair_otherwise) l__law_pair_otherwise c__law_pair_otherwise k__law_pair_otherwise
  have b__law_pair_otherwise := F__law_pair_otherwise.binds (ps := ["_law_box_here", "_law_pairs_here", "_law_crew"]) fun _ _ _ _ _ _ us hl => match us, hl with | [_, _, _], _ => rfl
  have F__law_otherwise := fun_mk (st := s__law_otherwise) l__law_otherwise c__law_otherwise k__law_otherwise
  have b__law_otherwise := F__law_otherwise.binds (ps := ["_law_box_here", "_law_pairs_here", "_law_crew"]) fun _ _ _ _ _ _ us hl => match us, hl with | [_, _, _], _ => rfl
  have F_law := fun_mk (st := s_law) l_law c_law k_law
  have b_law := F_law.binds (ps := ["_law_script"]) fun _ _ _ _ _ _ us hl => match us, hl with | [_], _ => rfl
  exact ⟨⟨kk_HOWS, cc_Pacts, cc_PactError, cc_NoWord, cc_NoPact, cc_NoHelper, ff_NoWord___init__, (PySem.W.fnOf "__init__" "NoWord.__init__" (defArgs s_NoWord___init__) (defBody s_NoWord___init__) (defScope s_NoWord___init__) .none kV_NoWord___init__ dc_NoWord___init__ pm_NoWord___init__ an_NoWord___init__ cd_NoWord___init__ ct_NoWord___init__), ff_NoPact___init__, (PySem.W.fnOf "__init__" "NoPact.__init__" (defArgs s_NoPact___init__) (defBody s_NoPact___init__) (defScope s_NoPact___init__) .none kV_NoPact___init__ dc_NoPact___init__ pm_NoPact___init__ an_NoPact___init__ cd_NoPact___init__ ct_NoPact___init__), ff_NoHelper___init__, (PySem.W.fnOf "__init__" "NoHelper.__init__" (defArgs s_NoHelper___init__) (defBody s_NoHelper___init__) (defScope s_NoHelper___init__) .none kV_NoHelper___init__ dc_NoHelper___init__ pm_NoHelper___init__ an_NoHelper___init__ cd_NoHelper___init__ ct_NoHelper___init__), ff_is_name, (PySem.W.fnOf "is_name" "is_name" (defArgs s_is_name) (defBody s_is_name) (defScope s_is_name) .none kV_is_name dc_is_name pm_is_name an_is_name cd_is_name ct_is_name), ff_Pacts___init__, (PySem.W.fnOf "__init__" "Pacts.__init__" (defArgs s_Pacts___init__) (defBody s_Pacts___init__) (defScope s_Pacts___init__) .none kV_Pacts___init__ dc_Pacts___init__ pm_Pacts___init__ an_Pacts___init__ cd_Pacts___init__ ct_Pacts___init__), ff_Pacts_fits_pair, (PySem.W.fnOf "fits_pair" "Pacts.fits_pair" (defArgs s_Pacts_fits_pair) (defBody s_Pacts_fits_pair) (defScope s_Pacts_fits_pair) .none kV_Pacts_fits_pair dc_Pacts_fits_pair pm_Pacts_fits_pair an_Pacts_fits_pair cd_Pacts_fits_pair ct_Pacts_fits_pair), ff_Pacts_fits_helper, (PySem.W.fnOf "fits_helper" "Pacts.fits_helper" (defArgs s_Pacts_fits_helper) (defBody s_Pacts_fits_helper) (defScope s_Pacts_fits_helper) .none kV_Pacts_fits_helper dc_Pacts_fits_helper pm_Pacts_fits_helper an_Pacts_fits_helper cd_Pacts_fits_helper ct_Pacts_fits_helper), ff_Pacts_words_called, (PySem.W.fnOf "words_called" "Pacts.words_called" (defArgs s_Pacts_words_called) (defBody s_Pacts_words_called) (defScope s_Pacts_words_called) .none kV_Pacts_words_called dc_Pacts_words_called pm_Pacts_words_called an_Pacts_words_called cd_Pacts_words_called ct_Pacts_words_called), ff_Pacts_pair_of, (PySem.W.fnOf "pair_of" "Pacts.pair_of" (defArgs s_Pacts_pair_of) (defBody s_Pacts_pair_of) (defScope s_Pacts_pair_of) .none kV_Pacts_pair_of dc_Pacts_pair_of pm_Pacts_pair_of an_Pacts_pair_of cd_Pacts_pair_of ct_Pacts_pair_of), ff_Pacts_pairs, (PySem.W.fnOf "pairs" "Pacts.pairs" (defArgs s_Pacts_pairs) (defBody s_Pacts_pairs) (defScope s_Pacts_pairs) .none kV_Pacts_pairs dc_Pacts_pairs pm_Pacts_pairs an_Pacts_pairs cd_Pacts_pairs ct_Pacts_pairs), ff_Pacts_names, (PySem.W.fnOf "names" "Pacts.names" (defArgs s_Pacts_names) (defBody s_Pacts_names) (defScope s_Pacts_names) .none kV_Pacts_names dc_Pacts_names pm_Pacts_names an_Pacts_names cd_Pacts_names ct_Pacts_names), ff_Pacts_pact, (PySem.W.fnOf "pact" "Pacts.pact" (defArgs s_Pacts_pact) (defBody s_Pacts_pact) (defScope s_Pacts_pact) .none kV_Pacts_pact dc_Pacts_pact pm_Pacts_pact an_Pacts_pact cd_Pacts_pact ct_Pacts_pact), ff_Pacts_over, (PySem.W.fnOf "over" "Pacts.over" (defArgs s_Pacts_over) (defBody s_Pacts_over) (defScope s_Pacts_over) .none kV_Pacts_over dc_Pacts_over pm_Pacts_over an_Pacts_over cd_Pacts_over ct_Pacts_over), ff_Pacts_errors, (PySem.W.fnOf "errors" "Pacts.errors" (defArgs s_Pacts_errors) (defBody s_Pacts_errors) (defScope s_Pacts_errors) .none kV_Pacts_errors dc_Pacts_errors pm_Pacts_errors an_Pacts_errors cd_Pacts_errors ct_Pacts_errors), ff_Pacts___len__, (PySem.W.fnOf "__len__" "Pacts.__len__" (defArgs s_Pacts___len__) (defBody s_Pacts___len__) (defScope s_Pacts___len__) .none kV_Pacts___len__ dc_Pacts___len__ pm_Pacts___len__ an_Pacts___len__ cd_Pacts___len__ ct_Pacts___len__), ff_Pacts___eq__, (PySem.W.fnOf "__eq__" "Pacts.__eq__" (defArgs s_Pacts___eq__) (defBody s_Pacts___eq__) (defScope s_Pacts___eq__) .none kV_Pacts___eq__ dc_Pacts___eq__ pm_Pacts___eq__ an_Pacts___eq__ cd_Pacts___eq__ ct_Pacts___eq__), ff_Pacts_lines_told, (PySem.W.fnOf "lines_told" "Pacts.lines_told" (defArgs s_Pacts_lines_told) (defBody s_Pacts_lines_told) (defScope s_Pacts_lines_told) .none kV_Pacts_lines_told dc_Pacts_lines_told pm_Pacts_lines_told an_Pacts_lines_told cd_Pacts_lines_told ct_Pacts_lines_told), ff_Pacts___str__, (PySem.W.fnOf "__str__" "Pacts.__str__" (defArgs s_Pacts___str__) (defBody s_Pacts___str__) (defScope s_Pacts___str__) .none kV_Pacts___str__ dc_Pacts___str__ pm_Pacts___str__ an_Pacts___str__ cd_Pacts___str__ ct_Pacts___str__), ff_pair_line, (PySem.W.fnOf "pair_line" "pair_line" (defArgs s_pair_line) (defBody s_pair_line) (defScope s_pair_line) .none kV_pair_line dc_pair_line pm_pair_line an_pair_line cd_pair_line ct_pair_line), ff_helper_line, (PySem.W.fnOf "helper_line" "helper_line" (defArgs s_helper_line) (defBody s_helper_line) (defScope s_helper_line) .none kV_helper_line dc_helper_line pm_helper_line an_helper_line cd_helper_line ct_helper_line), ff__law_box, (PySem.W.fnOf "_law_box" "_law_box" (defArgs s__law_box) (defBody s__law_box) (defScope s__law_box) .none kV__law_box dc__law_box pm__law_box an__law_box cd__law_box ct__law_box), ff__law_mixed, (PySem.W.fnOf "_law_mixed" "_law_mixed" (defArgs s__law_mixed) (defBody s__law_mixed) (defScope s__law_mixed) .none kV__law_mixed dc__law_mixed pm__law_mixed an__law_mixed cd__law_mixed ct__law_mixed), ff__law_take, (PySem.W.fnOf "_law_take" "_law_take" (defArgs s__law_take) (defBody s__law_take) (defScope s__law_take) .none kV__law_take dc__law_take pm__law_take an__law_take cd__law_take ct__law_take), ff__law_name, (PySem.W.fnOf "_law_name" "_law_name" (defArgs s__law_name) (defBody s__law_name) (defScope s__law_name) .none kV__law_name dc__law_name pm__law_name an__law_name cd__law_name ct__law_name), ff__law_names, (PySem.W.fnOf "_law_names" "_law_names" (defArgs s__law_names) (defBody s__law_names) (defScope s__law_names) .none kV__law_names dc__law_names pm__law_names an__law_names cd__law_names ct__law_names), ff__law_pairs, (PySem.W.fnOf "_law_pairs" "_law_pairs" (defArgs s__law_pairs) (defBody s__law_pairs) (defScope s__law_pairs) .none kV__law_pairs dc__law_pairs pm__law_pairs an__law_pairs cd__law_pairs ct__law_pairs), ff__law_some, (PySem.W.fnOf "_law_some" "_law_some" (defArgs s__law_some) (defBody s__law_some) (defScope s__law_some) .none kV__law_some dc__law_some pm__law_some an__law_some cd__law_some ct__law_some), ff__law_helpers, (PySem.W.fnOf "_law_helpers" "_law_helpers" (defArgs s__law_helpers) (defBody s__law_helpers) (defScope s__law_helpers) .none kV__law_helpers dc__law_helpers pm__law_helpers an__law_helpers cd__law_helpers ct__law_helpers), ff__law_crossed, (PySem.W.fnOf "_law_crossed" "_law_crossed" (defArgs s__law_crossed) (defBody s__law_crossed) (defScope s__law_crossed) .none kV__law_crossed dc__law_crossed pm__law_crossed an__law_crossed cd__law_crossed ct__law_crossed), ff__law_told, (PySem.W.fnOf "_law_told" "_law_told" (defArgs s__law_told) (defBody s__law_told) (defScope s__law_told) .none kV__law_told dc__law_told pm__law_told an__law_told cd__law_told ct__law_told), ff__law_refused, (PySem.W.fnOf "_law_refused" "_law_refused" (defArgs s__law_refused) (defBody s__law_refused) (defScope s__law_refused) .none kV__law_refused dc__law_refused pm__law_refused an__law_refused cd__law_refused ct__law_refused), ff__law_row_otherwise, (PySem.W.fnOf "_law_row_otherwise" "_law_row_otherwise" (defArgs s__law_row_otherwise) (defBody s__law_row_otherwise) (defScope s__law_row_otherwise) .none kV__law_row_otherwise dc__law_row_otherwise pm__law_row_otherwise an__law_row_otherwise cd__law_row_otherwise ct__law_row_otherwise), ff__law_pair_otherwise, (PySem.W.fnOf "_law_pair_otherwise" "_law_pair_otherwise" (defArgs s__law_pair_otherwise) (defBody s__law_pair_otherwise) (defScope s__law_pair_otherwise) .none kV__law_pair_otherwise dc__law_pair_otherwise pm__law_pair_otherwise an__law_pair_otherwise cd__law_pair_otherwise ct__law_pair_otherwise), ff__law_otherwise, (PySem.W.fnOf "_law_otherwise" "_law_otherwise" (defArgs s__law_otherwise) (defBody s__law_otherwise) (defScope s__law_otherwise) .none kV__law_otherwise dc__law_otherwise pm__law_otherwise an__law_otherwise cd__law_otherwise ct__law_otherwise), ff_law, (PySem.W.fnOf "law" "law" (defArgs s_law) (defBody s_law) (defScope s_law) .none kV_law dc_law pm_law an_law cd_law ct_law)⟩, { m_Pacts := PySem.W.mg_of X G aC_Pacts, cl_Pacts := ⟨pg_Pacts, hd_Pacts, po_Pacts, sa_Pacts⟩, mk_Pacts := ⟨mk_Pacts, a_Pacts___init__, i_Pacts___init__, kc_Pacts⟩, oc_Pacts := ⟨ocne_Pacts, ocob_Pacts, ocm1_Pacts, ocm2_Pacts, ocm3_Pacts, ocm4_Pacts, ocha_Pacts, ochn_Pacts, ocht_Pacts, ochm_Pacts, ock1_Pacts, ock2_Pacts, ock3_Pacts, ock4_Pacts⟩, na_Pacts_kept_pairs := na_Pacts_kept_pairs, na_Pacts_kept_pacts := na_Pacts_kept_pacts, m_PactError := PySem.W.mg_of X G aC_PactError, m_NoWord := PySem.W.mg_of X G aC_NoWord, ox_NoWord := ⟨⟨_, _, _, _, _, _, _, _, _, _, _, _, _, _, _, xL_NoWord, rfl⟩, sa_NoWord, bE_NoWord, ty_NoWord, kc_NoWord⟩, xf_NoWord := ⟨ga_NoWord, gg_NoWord, bE_NoWord, hd_NoWord⟩, ec_NoWord := ⟨ga_NoWord, gg_NoWord, bE_NoWord, hd_NoWord, cc__NoWord, sGet, tGet, mo_NoWord⟩, ini_NoWord := a_NoWord___init__, ti_NoWord := ti_NoWord, na_NoWord_word := na_NoWord_word, m_NoPact := PySem.W.mg_of X G aC_NoPact, ox_NoPact := ⟨⟨_, _, _, _, _, _, _, _, _, _, _, _, _, _, _, xL_NoPact, rfl⟩, sa_NoPact, bE_NoPact, ty_NoPact, kc_NoPact⟩, xf_NoPact := ⟨ga_NoPact, gg_NoPact, bE_NoPact, hd_NoPact⟩, ec_NoPact := ⟨ga_NoPact, gg_NoPact, bE_NoPact, hd_NoPact, cc__NoPact, sGet, tGet, mo_NoPact⟩, ini_NoPact := a_NoPact___init__, ti_NoPact := ti_NoPact, na_NoPact_at := na_NoPact_at, m_NoHelper := PySem.W.mg_of X G aC_NoHelper, ox_NoHelper := ⟨⟨_, _, _, _, _, _, _, _, _, _, _, _, _, _, _, xL_NoHelper, rfl⟩, sa_NoHelper, bE_NoHelper, ty_NoHelper, kc_NoHelper⟩, xf_NoHelper := ⟨ga_NoHelper, gg_NoHelper, bE_NoHelper, hd_NoHelper⟩, ec_NoHelper := ⟨ga_NoHelper, gg_NoHelper, bE_NoHelper, hd_NoHelper, cc__NoHelper, sGet, tGet, mo_NoHelper⟩, ini_NoHelper := a_NoHelper___init__, ti_NoHelper := ti_NoHelper, na_NoHelper_name := na_NoHelper_name, ex_NoHelper_NoHelper := PySem.W.exm_ref bE_NoHelper hd_NoHelper ty_NoHelper su_NoHelper_NoHelper, ex_NoHelper_PactError := PySem.W.exm_ref bE_PactError hd_PactError ty_PactError su_NoHelper_PactError, ex_NoHelper_NoWord := PySem.W.exm_ref bE_NoWord hd_NoWord ty_NoWord su_NoHelper_NoWord, ex_NoHelper_ValueError := su_NoHelper_ValueError, F_NoWord___init__ := F_NoWord___init__, b_NoWord___init__ := b_NoWord___init__, F_NoPact___init__ := F_NoPact___init__, b_NoPact___init__ := b_NoPact___init__, F_NoHelper___init__ := F_NoHelper___init__, b_NoHelper___init__ := b_NoHelper___init__, m_is_name := PySem.W.mg_of X G a_is_name, F_is_name := F_is_name, b_is_name := b_is_name, F_Pacts___init__ := F_Pacts___init__, b_Pacts___init__ := b_Pacts___init__, mt_Pacts_fits_pair := ⟨a_Pacts_fits_pair, i_Pacts_fits_pair, k_Pacts_fits_pair⟩, F_Pacts_fits_pair := F_Pacts_fits_pair, b_Pacts_fits_pair := b_Pacts_fits_pair, mt_Pacts_fits_helper := ⟨a_Pacts_fits_helper, i_Pacts_fits_helper, k_Pacts_fits_helper⟩, F_Pacts_fits_helper := F_Pacts_fits_helper, b_Pacts_fits_helper := b_Pacts_fits_helper, mt_Pacts_words_called := ⟨a_Pacts_words_called, i_Pacts_words_called, k_Pacts_words_called⟩, F_Pacts_words_called := F_Pacts_words_called, b_Pacts_words_called := b_Pacts_words_called, mt_Pacts_pair_of := ⟨a_Pacts_pair_of, i_Pacts_pair_of, k_Pacts_pair_of⟩, F_Pacts_pair_of := F_Pacts_pair_of, b_Pacts_pair_of := b_Pacts_pair_of, mt_Pacts_pairs := ⟨a_Pacts_pairs, i_Pacts_pairs, k_Pacts_pairs⟩, F_Pacts_pairs := F_Pacts_pairs, b_Pacts_pairs := b_Pacts_pairs, mt_Pacts_names := ⟨a_Pacts_names, i_Pacts_names, k_Pacts_names⟩, F_Pacts_names := F_Pacts_names, b_Pacts_names := b_Pacts_names, mt_Pacts_pact := ⟨a_Pacts_pact, i_Pacts_pact, k_Pacts_pact⟩, F_Pacts_pact := F_Pacts_pact, b_Pacts_pact := b_Pacts_pact, mt_Pacts_over := ⟨a_Pacts_over, i_Pacts_over, k_Pacts_over⟩, F_Pacts_over := F_Pacts_over, mt_Pacts_errors := ⟨a_Pacts_errors, i_Pacts_errors, k_Pacts_errors⟩, F_Pacts_errors := F_Pacts_errors, mt_Pacts___len__ := ⟨a_Pacts___len__, i_Pacts___len__, k_Pacts___len__⟩, F_Pacts___len__ := F_Pacts___len__, b_Pacts___len__ := b_Pacts___len__, mt_Pacts___eq__ := ⟨a_Pacts___eq__, i_Pacts___eq__, k_Pacts___eq__⟩, F_Pacts___eq__ := F_Pacts___eq__, b_Pacts___eq__ := b_Pacts___eq__, mt_Pacts_lines_told := ⟨a_Pacts_lines_told, i_Pacts_lines_told, k_Pacts_lines_told⟩, F_Pacts_lines_told := F_Pacts_lines_told, b_Pacts_lines_told := b_Pacts_lines_told, mt_Pacts___str__ := ⟨a_Pacts___str__, i_Pacts___str__, k_Pacts___str__⟩, F_Pacts___str__ := F_Pacts___str__, b_Pacts___str__ := b_Pacts___str__, m_pair_line := PySem.W.mg_of X G a_pair_line, F_pair_line := F_pair_line, b_pair_line := b_pair_line, m_helper_line := PySem.W.mg_of X G a_helper_line, F_helper_line := F_helper_line, b_helper_line := b_helper_line, m__law_box := PySem.W.mg_of X G a__law_box, F__law_box := F__law_box, b__law_box := b__law_box, m__law_mixed := PySem.W.mg_of X G a__law_mixed, F__law_mixed := F__law_mixed, b__law_mixed := b__law_mixed, m__law_take := PySem.W.mg_of X G a__law_take, F__law_take := F__law_take, b__law_take := b__law_take, m__law_name := PySem.W.mg_of X G a__law_name, F__law_name := F__law_name, b__law_name := b__law_name, m__law_names := PySem.W.mg_of X G a__law_names, F__law_names := F__law_names, b__law_names := b__law_names, m__law_pairs := PySem.W.mg_of X G a__law_pairs, F__law_pairs := F__law_pairs, b__law_pairs := b__law_pairs, m__law_some := PySem.W.mg_of X G a__law_some, F__law_some := F__law_some, b__law_some := b__law_some, m__law_helpers := PySem.W.mg_of X G a__law_helpers, F__law_helpers := F__law_helpers, b__law_helpers := b__law_helpers, m__law_crossed := PySem.W.mg_of X G a__law_crossed, F__law_crossed := F__law_crossed, b__law_crossed := b__law_crossed, m__law_told := PySem.W.mg_of X G a__law_told, F__law_told := F__law_told, b__law_told := b__law_told, m__law_refused := PySem.W.mg_of X G a__law_refused, F__law_refused := F__law_refused, b__law_refused := b__law_refused, m__law_row_otherwise := PySem.W.mg_of X G a__law_row_otherwise, F__law_row_otherwise := F__law_row_otherwise, b__law_row_otherwise := b__law_row_otherwise, m__law_pair_otherwise := PySem.W.mg_of X G a__law_pair_otherwise, F__law_pair_otherwise := F__law_pair_otherwise, b__law_pair_otherwise := b__law_pair_otherwise, m__law_otherwise := PySem.W.mg_of X G a__law_otherwise, F__law_otherwise := F__law_otherwise, b__law_otherwise := b__law_otherwise, m_law := PySem.W.mg_of X G a_law, F_law := F_law, b_law := b_law, kb_Pacts___init___helpers := kb_ofn (n := 2) (m := 1) F_Pacts___init__ rfl (by decide) (fun _ _ _ _ _ _ us ws hu hw => match us, ws, hu, hw with | [_, _], [_], _, _ => rfl), kb_Pacts_pact_name := kb_ofn (n := 1) (m := 1) F_Pacts_pact rfl (by decide) (fun _ _ _ _ _ _ us ws hu hw => match us, ws, hu, hw with | [_], [_], _, _ => rfl), kb_Pacts_errors_side := kb_ofn (n := 2) (m := 1) F_Pacts_errors rfl (by decide) (fun _ _ _ _ _ _ us ws hu hw => match us, ws, hu, hw with | [_, _], [_], _, _ => rfl), kb_Pacts_over_side := kb_ofn (n := 2) (m := 1) F_Pacts_over rfl (by decide) (fun _ _ _ _ _ _ us ws hu hw => match us, ws, hu, hw with | [_, _], [_], _, _ => rfl), z_all := PySem.W.mg_none_of X G z_all, z_len := PySem.W.mg_none_of X G z_len, z_enumerate := PySem.W.mg_none_of X G z_enumerate, z_any := PySem.W.mg_none_of X G z_any, z_set := PySem.W.mg_none_of X G z_set, z_list := PySem.W.mg_none_of X G z_list, z_isinstance := PySem.W.mg_none_of X G z_isinstance, z_str := PySem.W.mg_none_of X G z_str, z_range := PySem.W.mg_none_of X G z_range, z_zip := PySem.W.mg_none_of X G z_zip, z_min := PySem.W.mg_none_of X G z_min, z_tuple := PySem.W.mg_none_of X G z_tuple, z_bool := PySem.W.mg_none_of X G z_bool, z_ValueError := PySem.W.mg_none_of X G z_ValueError, z_int := PySem.W.mg_none_of X G z_int, g_LETTERS := ⟨_, PySem.W.mg_of X G g_LETTERS⟩, g_MOST := ⟨_, PySem.W.mg_of X G g_MOST⟩, g_MOST_PAIRS := ⟨_, PySem.W.mg_of X G g_MOST_PAIRS⟩, g_MOST_HELPERS := ⟨_, PySem.W.mg_of X G g_MOST_HELPERS⟩, g_MOST_TAKES := ⟨_, PySem.W.mg_of X G g_MOST_TAKES⟩, g_MOST_THROWS := ⟨_, PySem.W.mg_of X G g_MOST_THROWS⟩, g_HOWS := PySem.W.mg_of X G g_HOWS, tp_HOWS := fun H => .inr ⟨_, _, _, tl_HOWS, rfl, rfl, (by show 2 ≤ sizeLine; decide), (.cons ⟨_, rfl⟩ (.cons ⟨_, rfl⟩ .nil))⟩ }⟩
theorem all_end {l : PySem.W.OpenLaw} {w : World} {K : PySem.W.Frag} {h : Heap} {mg : Str → Option Value} {fa : Addr} (X : K.In h) (G : h.Ns mainGlobals mg) (hfa : mg "law" = some (.ref fa)) (hT : ∃ a : Ad, Txt K mg a) :
    ∃ fd : FuncData, (∀ (s : Shared) (v : Value), BindsTo s fd ⟨[v], []⟩ [("_law_script", v)]) ∧ ∀ base : Heap, K.In base → base.Ns mainGlobals mg → FnOk l.prog w K mg base CX0 7 fa fd ["_law_script"] (spLaw K) := by
  obtain ⟨a, T⟩ := hT
  have e := hfa.symm.trans T.m_law
  cases e
  obtain ⟨oc, od, kV, doc, pm, an, cdv, ct, osl, e, lk, hcd⟩ := T.F_law.ex
  refine ⟨a.d_law, fun s v => ?_, fun base _ _ => ok_law T⟩
  rw [e]
  exact .of_eq rfl
theorem walk {l : PySem.W.OpenLaw} {q : Program} {loose : List Str} {XP : (Str → Option Value) → Heap → Prop} {YP : World → Heap → Prop} {d : DefRec} {K : Params → PySem.W.Frag} (hn : l.most = some 63) (hdf : d.params.defaults = [])
    (hY : ∀ (w : World) (h : Heap), YP w h → (K w.params).In h)
    (F : ∀ (w : World) (mg : Str → Option Value) (fa : Addr) (h : Heap), (K w.params).In h → h.Ns mainGlobals mg → mg d.name = some (.ref fa) →
      ∃ fd : FuncData, (∀ (s : Shared) (u : Value), BindsTo s fd ⟨[u], []⟩ [("_law_script", u)]) ∧ ∀ base : Heap, (K w.params).In base → base.Ns mainGlobals mg → FnOk l.prog w (K w.params) mg base CX0 7 fa fd ["_law_script"] (spLaw (K w.params))) :
    PySem.W.WalkO q loose XP YP l.row.toRowW d [] (fun f vs => PySem.call f vs) :=
  L2.walk_of (n := 63) (k := 7) (x := "_law_script") (CX := fun _ => CX0) (sp := fun w => spLaw (K w.params)) hn (by decide) hdf ⟨rfl, by decide, by decide⟩ hY F (fun _ _ a ns hl _ hS => ⟨a, ns, rfl, hS, hl, fun _ => rfl⟩) fun _ _ _ _ _ z => z
end Pf
open PySem PySem.W PyProof.Rows in
set_option maxRecDepth 100000 in
set_option maxHeartbeats 0 in
theorem PySem.Challenge.cw_pactford_k02_pacts_told_holds : PySem.Challenge.rw_pactford_k02_pacts_told.Holds := by
  w_on; o_law; k_head; (case hw => w_witness2)
  k_fill
  refine Pf.walk (l := PySem.Challenge.rw_pactford_k02_pacts_told) rfl rfl (fun w h Y => PySem.W.kIn_of Y) ?F
  case F =>
    intro w mg fa h KX G hmg
    refine' Pf.all_end KX G hmg (Pf.all_mk KX G ?aC_Pacts ?pg_Pacts ?hd_Pacts ?po_Pacts ?sa_Pacts ?mk_Pacts ?kc_Pacts ?ocne_Pacts ?ocob_Pacts ?ocm1_Pacts ?ocm2_Pacts ?ocm3_Pacts ?ocm4_Pacts ?ocha_Pacts ?ochn_Pacts ?ocht_Pacts ?ochm_Pacts ?ock1_Pacts ?ock2_Pacts ?ock3_Pacts ?ock4_Pacts ?na_Pacts_kept_pairs ?na_Pacts_kept_pacts ?aC_PactError ?bE_PactError ?hd_PactError ?ty_PactError ?aC_NoWord ?bE_NoWord ?hd_NoWord ?ty_NoWord ?xL_NoWord ?sa_NoWord ?ga_NoWord ?gg_NoWord ?kc_NoWord ?cc__NoWord ?mo_NoWord ?na_NoWord_word ?aC_NoPact ?bE_NoPact ?hd_NoPact ?ty_NoPact ?xL_NoPact ?sa_NoPact ?ga_NoPact ?gg_NoPact ?kc_NoPact ?cc__NoPact ?mo_NoPact ?na_NoPact_at ?aC_NoHelper ?bE_NoHelper ?hd_NoHelper ?ty_NoHelper ?xL_NoHelper ?sa_NoHelper ?ga_NoHelper ?gg_NoHelper ?kc_NoHelper ?cc__NoHelper ?mo_NoHelper ?na_NoHelper_name ?sGet ?tGet ?su_NoHelper_NoHelper ?su_NoHelper_PactError ?su_NoHelper_NoWord ?su_NoHelper_ValueError ?a_NoWord___init__ ?i_NoWord___init__ ?l_NoWord___init__ ?c_NoWord___init__ ?k_NoWord___init__ ?a_NoPact___init__ ?i_NoPact___init__ ?l_NoPact___init__ ?c_NoPact___init__ ?k_NoPact___init__ ?a_NoHelper___init__ ?i_NoHelper___init__ ?l_NoHelper___init__ ?c_NoHelper___init__ ?k_NoHelper___init__ ?a_is_name ?l_is_name ?c_is_name ?k_is_name ?a_Pacts___init__ ?i_Pacts___init__ ?l_Pacts___init__ ?c_Pacts___init__ ?k_Pacts___init__ ?a_Pacts_fits_pair ?i_Pacts_fits_pair ?l_Pacts_fits_pair ?c_Pacts_fits_pair ?k_Pacts_fits_pair ?a_Pacts_fits_helper ?i_Pacts_fits_helper ?l_Pacts_fits_helper ?c_Pacts_fits_helper ?k_Pacts_fits_helper ?a_Pacts_words_called ?i_Pacts_words_called ?l_Pacts_words_called ?c_Pacts_words_called ?k_Pacts_words_called ?a_Pacts_pair_of ?i_Pacts_pair_of ?l_Pacts_pair_of ?c_Pacts_pair_of ?k_Pacts_pair_of ?a_Pacts_pairs ?i_Pacts_pairs ?l_Pacts_pairs ?c_Pacts_pairs ?k_Pacts_pairs ?a_Pacts_names ?i_Pacts_names ?l_Pacts_names ?c_Pacts_names ?k_Pacts_names ?a_Pacts_pact ?i_Pacts_pact ?l_Pacts_pact ?c_Pacts_pact ?k_Pacts_pact ?a_Pacts_over ?i_Pacts_over ?l_Pacts_over ?c_Pacts_over ?k_Pacts_over ?a_Pacts_errors ?i_Pacts_errors ?l_Pacts_errors ?c_Pacts_errors ?k_Pacts_errors ?a_Pacts___len__ ?i_Pacts___len__ ?l_Pacts___len__ ?c_Pacts___len__ ?k_Pacts___len__ ?a_Pacts___eq__ ?i_Pacts___eq__ ?l_Pacts___eq__ ?c_Pacts___eq__ ?k_Pacts___eq__ ?a_Pacts_lines_told ?i_Pacts_lines_told ?l_Pacts_lines_told ?c_Pacts_lines_told ?k_Pacts_lines_told ?a_Pacts___str__ ?i_Pacts___str__ ?l_Pacts___str__ ?c_Pacts___str__ ?k_Pacts___str__ ?a_pair_line ?l_pair_line ?c_pair_line ?k_pair_line ?a_helper_line ?l_helper_line ?c_helper_line ?k_helper_line ?a__law_box ?l__law_box ?c__law_box ?k__law_box ?a__law_mixed ?l__law_mixed ?c__law_mixed ?k__law_mixed ?a__law_take ?l__law_take ?c__law_take ?k__law_take ?a__law_name ?l__law_name ?c__law_name ?k__law_name ?a__law_names ?l__law_names ?c__law_names ?k__law_names ?a__law_pairs ?l__law_pairs ?c__law_pairs ?k__law_pairs ?a__law_some ?l__law_some ?c__law_some ?k__law_some ?a__law_helpers ?l__law_helpers ?c__law_helpers ?k__law_helpers ?a__law_crossed ?l__law_crossed ?c__law_crossed ?k__law_crossed ?a__law_told ?l__law_told ?c__law_told ?k__law_told ?a__law_refused ?l__law_refused ?c__law_refused ?k__law_refused ?a__law_row_otherwise ?l__law_row_otherwise ?c__law_row_otherwise ?k__law_row_otherwise ?a__law_pair_otherwise ?l__law_pair_otherwise ?c__law_pair_otherwise ?k__law_pair_otherwise ?a__law_otherwise ?l__law_otherwise ?c__law_otherwise ?k__law_otherwise ?a_law ?l_law ?c_law ?k_law ?ti_NoWord ?ti_NoPact ?ti_NoHelper ?z_all ?z_len ?z_enumerate ?z_any ?z_set ?z_list ?z_isinstance ?z_str ?z_range ?z_zip ?z_min ?z_tuple ?z_bool ?z_ValueError ?z_int ?g_LETTERS ?g_MOST ?g_MOST_PAIRS ?g_MOST_HELPERS ?g_MOST_TAKES ?g_MOST_THROWS ?g_HOWS ?tl_HOWS)
    (case aC_Pacts => k_is)
    (case pg_Pacts => k_is)
    (case hd_Pacts => k_is)
    (case po_Pacts => k_is)
    (case sa_Pacts => k_is)
    (case mk_Pacts => k_is)
    (case kc_Pacts => k_is)
    (case ocne_Pacts => k_is)
    (case ocob_Pacts => first | rfl | k_is)
    (case ocm1_Pacts => first | rfl | k_is)
    (case ocm2_Pacts => first | rfl | k_is)
    (case ocm3_Pacts => first | rfl | k_is)
    (case ocm4_Pacts => first | rfl | k_is)
    (case ocha_Pacts => k_is)
    (case ochn_Pacts => k_is)
    (case ocht_Pacts => k_is)
    (case ochm_Pacts => k_is)
    (case ock1_Pacts => first | rfl | k_is)
    (case ock2_Pacts => first | rfl | k_is)
    (case ock3_Pacts => first | rfl | k_is)
    (case ock4_Pacts => first | rfl | k_is)
    (case na_Pacts_kept_pairs => k_is)
    (case na_Pacts_kept_pacts => k_is)
    (case aC_PactError => k_is)
    (case bE_PactError => k_is)
    (case hd_PactError => k_is)
    (case ty_PactError => k_is)
    (case aC_NoWord => k_is)
    (case bE_NoWord => k_is)
    (case hd_NoWord => k_is)
    (case ty_NoWord => k_is)
    (case xL_NoWord => k_is)
    (case sa_NoWord => k_is)
    (case ga_NoWord => k_is)
    (case gg_NoWord => k_is)
    (case kc_NoWord => k_is)
    (case cc__NoWord => k_is)
    (case mo_NoWord => k_is)
    (case na_NoWord_word => k_is)
    (case aC_NoPact => k_is)
    (case bE_NoPact => k_is)
    (case hd_NoPact => k_is)
    (case ty_NoPact => k_is)
    (case xL_NoPact => k_is)
    (case sa_NoPact => k_is)
    (case ga_NoPact => k_is)
    (case gg_NoPact => k_is)
    (case kc_NoPact => k_is)
    (case cc__NoPact => k_is)
    (case mo_NoPact => k_is)
    (case na_NoPact_at => k_is)
    (case aC_NoHelper => k_is)
    (case bE_NoHelper => k_is)
    (case hd_NoHelper => k_is)
    (case ty_NoHelper => k_is)
    (case xL_NoHelper => k_is)
    (case sa_NoHelper => k_is)
    (case ga_NoHelper => k_is)
    (case gg_NoHelper => k_is)
    (case kc_NoHelper => k_is)
    (case cc__NoHelper => k_is)
    (case mo_NoHelper => k_is)
    (case na_NoHelper_name => k_is)
    (case sGet => k_is)
    (case tGet => k_is)
    (case su_NoHelper_NoHelper => first | rfl | k_is)
    (case su_NoHelper_PactError => first | rfl | k_is)
    (case su_NoHelper_NoWord => first | rfl | k_is)
    (case su_NoHelper_ValueError => first | rfl | k_is)
    (case a_NoWord___init__ => k_is)
    (case i_NoWord___init__ => k_is)
    (case l_NoWord___init__ => k_is)
    (case c_NoWord___init__ => k_is)
    (case k_NoWord___init__ => k_is)
    (case a_NoPact___init__ => k_is)
    (case i_NoPact___init__ => k_is)
    (case l_NoPact___init__ => k_is)
    (case c_NoPact___init__ => k_is)
    (case k_NoPact___init__ => k_is)
    (case a_NoHelper___init__ => k_is)
    (case i_NoHelper___init__ => k_is)
    (case l_NoHelper___init__ => k_is)
    (case c_NoHelper___init__ => k_is)
    (case k_NoHelper___init__ => k_is)
    (case a_is_name => k_is)
    (case l_is_name => k_is)
    (case c_is_name => k_is)
    (case k_is_name => k_is)
    (case a_Pacts___init__ => k_is)
    (case i_Pacts___init__ => k_is)
    (case l_Pacts___init__ => k_is)
    (case c_Pacts___init__ => k_is)
    (case k_Pacts___init__ => k_is)
    (case a_Pacts_fits_pair => k_is)
    (case i_Pacts_fits_pair => k_is)
    (case l_Pacts_fits_pair => k_is)
    (case c_Pacts_fits_pair => k_is)
    (case k_Pacts_fits_pair => k_is)
    (case a_Pacts_fits_helper => k_is)
    (case i_Pacts_fits_helper => k_is)
    (case l_Pacts_fits_helper => k_is)
    (case c_Pacts_fits_helper => k_is)
    (case k_Pacts_fits_helper => k_is)
    (case a_Pacts_words_called => k_is)
    (case i_Pacts_words_called => k_is)
    (case l_Pacts_words_called => k_is)
    (case c_Pacts_words_called => k_is)
    (case k_Pacts_words_called => k_is)
    (case a_Pacts_pair_of => k_is)
    (case i_Pacts_pair_of => k_is)
    (case l_Pacts_pair_of => k_is)
    (case c_Pacts_pair_of => k_is)
    (case k_Pacts_pair_of => k_is)
    (case a_Pacts_pairs => k_is)
    (case i_Pacts_pairs => k_is)
    (case l_Pacts_pairs => k_is)
    (case c_Pacts_pairs => k_is)
    (case k_Pacts_pairs => k_is)
    (case a_Pacts_names => k_is)
    (case i_Pacts_names => k_is)
    (case l_Pacts_names => k_is)
    (case c_Pacts_names => k_is)
    (case k_Pacts_names => k_is)
    (case a_Pacts_pact => k_is)
    (case i_Pacts_pact => k_is)
    (case l_Pacts_pact => k_is)
    (case c_Pacts_pact => k_is)
    (case k_Pacts_pact => k_is)
    (case a_Pacts_over => k_is)
    (case i_Pacts_over => k_is)
    (case l_Pacts_over => k_is)
    (case c_Pacts_over => k_is)
    (case k_Pacts_over => k_is)
    (case a_Pacts_errors => k_is)
    (case i_Pacts_errors => k_is)
    (case l_Pacts_errors => k_is)
    (case c_Pacts_errors => k_is)
    (case k_Pacts_errors => k_is)
    (case a_Pacts___len__ => k_is)
    (case i_Pacts___len__ => k_is)
    (case l_Pacts___len__ => k_is)
    (case c_Pacts___len__ => k_is)
    (case k_Pacts___len__ => k_is)
    (case a_Pacts___eq__ => k_is)
    (case i_Pacts___eq__ => k_is)
    (case l_Pacts___eq__ => k_is)
    (case c_Pacts___eq__ => k_is)
    (case k_Pacts___eq__ => k_is)
    (case a_Pacts_lines_told => k_is)
    (case i_Pacts_lines_told => k_is)
    (case l_Pacts_lines_told => k_is)
    (case c_Pacts_lines_told => k_is)
    (case k_Pacts_lines_told => k_is)
    (case a_Pacts___str__ => k_is)
    (case i_Pacts___str__ => k_is)
    (case l_Pacts___str__ => k_is)
    (case c_Pacts___str__ => k_is)
    (case k_Pacts___str__ => k_is)
    (case a_pair_line => k_is)
    (case l_pair_line => k_is)
    (case c_pair_line => k_is)
    (case k_pair_line => k_is)
    (case a_helper_line => k_is)
    (case l_helper_line => k_is)
    (case c_helper_line => k_is)
    (case k_helper_line => k_is)
    (case a__law_box => k_is)
    (case l__law_box => k_is)
    (case c__law_box => k_is)
    (case k__law_box => k_is)
    (case a__law_mixed => k_is)
    (case l__law_mixed => k_is)
    (case c__law_mixed => k_is)
    (case k__law_mixed => k_is)
    (case a__law_take => k_is)
    (case l__law_take => k_is)
    (case c__law_take => k_is)
    (case k__law_take => k_is)
    (case a__law_name => k_is)
    (case l__law_name => k_is)
    (case c__law_name => k_is)
    (case k__law_name => k_is)
    (case a__law_names => k_is)
    (case l__law_names => k_is)
    (case c__law_names => k_is)
    (case k__law_names => k_is)
    (case a__law_pairs => k_is)
    (case l__law_pairs => k_is)
    (case c__law_pairs => k_is)
    (case k__law_pairs => k_is)
    (case a__law_some => k_is)
    (case l__law_some => k_is)
    (case c__law_some => k_is)
    (case k__law_some => k_is)
    (case a__law_helpers => k_is)
    (case l__law_helpers => k_is)
    (case c__law_helpers => k_is)
    (case k__law_helpers => k_is)
    (case a__law_crossed => k_is)
    (case l__law_crossed => k_is)
    (case c__law_crossed => k_is)
    (case k__law_crossed => k_is)
    (case a__law_told => k_is)
    (case l__law_told => k_is)
    (case c__law_told => k_is)
    (case k__law_told => k_is)
    (case a__law_refused => k_is)
    (case l__law_refused => k_is)
    (case c__law_refused => k_is)
    (case k__law_refused => k_is)
    (case a__law_row_otherwise => k_is)
    (case l__law_row_otherwise => k_is)
    (case c__law_row_otherwise => k_is)
    (case k__law_row_otherwise => k_is)
    (case a__law_pair_otherwise => k_is)
    (case l__law_pair_otherwise => k_is)
    (case c__law_pair_otherwise => k_is)
    (case k__law_pair_otherwise => k_is)
    (case a__law_otherwise => k_is)
    (case l__law_otherwise => k_is)
    (case c__law_otherwise => k_is)
    (case k__law_otherwise => k_is)
    (case a_law => k_is)
    (case l_law => k_is)
    (case c_law => k_is)
    (case k_law => k_is)
    (case ti_NoWord => k_is)
    (case ti_NoPact => k_is)
    (case ti_NoHelper => k_is)
    (case z_all => k_is)
    (case z_len => k_is)
    (case z_enumerate => k_is)
    (case z_any => k_is)
    (case z_set => k_is)
    (case z_list => k_is)
    (case z_isinstance => k_is)
    (case z_str => k_is)
    (case z_range => k_is)
    (case z_zip => k_is)
    (case z_min => k_is)
    (case z_tuple => k_is)
    (case z_bool => k_is)
    (case z_ValueError => k_is)
    (case z_int => k_is)
    (case g_LETTERS => k_is)
    (case g_MOST => k_is)
    (case g_MOST_PAIRS => k_is)
    (case g_MOST_HELPERS => k_is)
    (case g_MOST_TAKES => k_is)
    (case g_MOST_THROWS => k_is)
    (case g_HOWS => k_is)
    (case tl_HOWS => k_is)
